import PyProof.Rows.All
import Wide.All
import OpenK.AllK
import Wide.FinOn
import HandS.ForMost
import HandS.Exc
import HandS.Wide
import HandS.IsInst
import HandS.Deep
import HandS.Rev
import HandS.Conv
import HandS.Flt
import HandS.WideBits
import HandS.Text
import HandS.RevTup
import KE.IntTextLaws
import HandS.EndBits
import HandS.Comp
import HandS.WordsExc
import KE.GoesRaise
import HandS.ExcIs
import HandS.ExcValue
import PyProof.StrOps2
import PySem.Challenge.RW_sinceply_k57_nets_misread
import PyProof.Rows.RegStrFacts
import PyProof.FitsStr
set_option Elab.async false
set_option linter.all false
set_option maxRecDepth 100000
set_option maxHeartbeats 4000000
/-! The pure layer: things as data, owned things as trees of data. -/
namespace DL
open PySem PySem.Spec PyProof.Rows L2
abbrev D := PyData
abbrev FP := Addr → Prop
def Ex (H H' : Hp) : Prop := ∀ a o, H a = some o → H' a = some o
theorem Ex.refl (H : Hp) : Ex H H := fun _ _ h => h
theorem Ex.trans {H H1 H2 : Hp} (a : Ex H H1) (b : Ex H1 H2) : Ex H H2 := fun x o h => b x o (a x o h)
theorem Ex.rd {H H' : Hp} {a : Addr} {u : HO} (e : Ex H H') (h : Rd H a u) : Rd H' a u := by
  rcases h with h | ⟨o, h⟩
  · exact Or.inl (e a _ h)
  · exact Or.inr ⟨o, e a _ h⟩
theorem Ex.l {K : PySem.W.Frag} {H H' : Hp} {a : Addr} {xs : List V} (e : Ex H H') (h : SqL K H a xs) : SqL K H' a xs := by
  rcases h with h | h
  · exact Or.inl (e.rd h)
  · exact Or.inr h
theorem Ex.t {K : PySem.W.Frag} {H H' : Hp} {a : Addr} {xs : List V} (e : Ex H H') (h : SqT K H a xs) : SqT K H' a xs := by
  rcases h with h | h
  · exact Or.inl (e.rd h)
  · exact Or.inr h
mutual
theorem dp_ex {K : PySem.W.Frag} {H H' : Hp} (e : Ex H H') : ∀ {v : V} {d : D}, Dp K H v d → Dp K H' v d
  | _, _, .non => .non
  | _, _, .bl b => .bl b
  | _, _, .int i => .int i
  | _, _, .str x => .str x
  | _, _, .lst h r => .lst (e.l h) (dps_ex e r)
  | _, _, .tup h r => .tup (e.t h) (dps_ex e r)
theorem dps_ex {K : PySem.W.Frag} {H H' : Hp} (e : Ex H H') : ∀ {vs : List V} {ds : List D}, DpAll K H vs ds → DpAll K H' vs ds
  | _, _, .nil => .nil
  | _, _, .cons h r => .cons (dp_ex e h) (dps_ex e r)
end
/-- fresh ahead of an extension is fresh before -/
theorem Ex.back {H H' : Hp} {p : Addr} (e : Ex H H') (h : H' p = none) : H p = none := by
  cases h1 : H p with
  | none => rfl
  | some o =>
    rw [e p o h1] at h
    cases h
theorem Ex.new {H : Hp} {p : Addr} {o : HO} (h : H p = none) : Ex H (upd H p o) := fun a u e => by
  rw [upd_ne (ne_of_none e h)]
  exact e
/-- a caught exception's object -/
def CgO (C : Value) (d : Option Addr) (a : Addr) : HO := .ext fun h => ∃ (oe : Obj) (vs : Array Value), h.get? a = some oe ∧ Zc C d oe ∧ oe.data = .fields vs
/-- its own fields, if it has any -/
def XF (F H : Hp) (S : FP) (p : Addr) : Option (List (Str × V)) → Option Addr → Prop
  | none, none => True
  | some l, some dx => S dx ∧ F dx = none ∧ H dx = some (.xd l) ∧ dx ≠ p
  | _, _ => False
/-- a thing in a slot: shared data, or an owned object -/
inductive O where
  | fr (d : D)
  | ol (os : List O)
  | ot (os : List O)
  | od (ks : List Key) (os : List O)
  | oi (C : Addr) (ns : List Str) (os : List O)
  | ox (C : Value) (fs : Option (List (Str × V)))
abbrev Env := List (Option O)
mutual
def Own (K : PySem.W.Frag) (F H : Hp) : O → V → FP → Prop
  | .fr d, v, _ => Dp K F v d
  | .ol os, v, S => ∃ p vs T, v = .ref p ∧ S p ∧ F p = none ∧ H p = some (.lst vs) ∧ (∀ a, T a → S a) ∧ ¬ T p ∧ Owns K F H os vs T
  | .ot os, v, S => ∃ p vs T, v = .ref p ∧ S p ∧ F p = none ∧ H p = some (.tup vs) ∧ (∀ a, T a → S a) ∧ ¬ T p ∧ Owns K F H os vs T
  | .od ks os, v, S => ∃ p kvs T, v = .ref p ∧ S p ∧ F p = none ∧ H p = some (.dK kvs) ∧ kvs.map (·.1) = ks ∧ (∀ a, T a → S a) ∧ ¬ T p ∧ Owns K F H os (kvs.map (·.2)) T
  | .oi C ns os, v, S => ∃ p dx fs T, v = .ref p ∧ S p ∧ S dx ∧ F p = none ∧ F dx = none ∧ H p = some (.ins C dx fs) ∧ H dx = some (.own p) ∧ fs.map (·.1) = ns ∧ (∀ a, T a → S a) ∧ ¬ T p ∧ ¬ T dx ∧ Owns K F H os (fs.map (·.2)) T
  | .ox C fs, v, S => ∃ p d, v = .ref p ∧ S p ∧ F p = none ∧ H p = some (CgO C d p) ∧ XF F H S p fs d
def Owns (K : PySem.W.Frag) (F H : Hp) : List O → List V → FP → Prop
  | [], vs, _ => vs = []
  | o :: os, vs, S => ∃ v vs' S1 S2, vs = v :: vs' ∧ (∀ a, S1 a → S a) ∧ (∀ a, S2 a → S a) ∧ (∀ a, S1 a → ¬ S2 a) ∧ Own K F H o v S1 ∧ Owns K F H os vs' S2
end
structure Stp (F H : Hp) (S : FP) (F' H' : Hp) : Prop where
  ex : Ex F F'
  fr : ∀ a o, H a = some o → ¬ S a → H' a = some o
  fz : ∀ a, F a = none → H a ≠ none → ¬ S a → F' a = none
def Fresh (H : Hp) (S S' : FP) : Prop := ∀ a, S' a → S a ∨ H a = none
section
variable {K : PySem.W.Frag} {F H F' H' F1 H1 : Hp} {S S' T T' S1 : FP}
theorem Stp.refl : Stp F H S F H := ⟨Ex.refl _, fun _ _ h _ => h, fun _ h _ _ => h⟩
theorem Fresh.refl : Fresh H S S := fun _ h => .inl h
theorem Stp.trans (a : Stp F H S F1 H1) (n : Fresh H S S1) (b : Stp F1 H1 S1 F' H') : Stp F H S F' H' := by
  have ns : ∀ c, H c ≠ none → ¬ S c → ¬ S1 c := fun c h1 h2 h3 => (n c h3).elim h2 h1
  refine ⟨a.ex.trans b.ex, fun c o h hs => b.fr c o (a.fr c o h hs) (ns c (by rw [h]; simp) hs), fun c h hh hs => ?_⟩
  refine b.fz c (a.fz c h hh hs) ?_ (ns c hh hs)
  cases e : H c with
  | none => exact absurd e hh
  | some o => rw [a.fr c o e hs]; simp
theorem Fresh.trans (a : Stp F H S F1 H1) (n : Fresh H S S1) (m : Fresh H1 S1 S') : Fresh H S S' := fun c h => by
  rcases m c h with h | h
  · exact n c h
  · cases e : H c with
    | none => exact .inr rfl
    | some o =>
      by_cases hs : S c
      · exact .inl hs
      · rw [a.fr c o e hs] at h; cases h
theorem Fresh.sub (n : Fresh H S S') (h : ∀ a, T a → S' a) : Fresh H S T := fun c q => n c (h c q)
theorem Fresh.mono (n : Fresh H S S') (h : ∀ a, S a → T a) : Fresh H T S' := fun c q => (n c q).imp (h c) id
/-- more may be left alone -/
theorem Stp.mono (a : Stp F H S F' H') (h : ∀ c, S c → T c) : Stp F H T F' H' :=
  ⟨a.ex, fun c o e n => a.fr c o e fun z => n (h c z), fun c e m n => a.fz c e m fun z => n (h c z)⟩
theorem XF.mono {p : Addr} : ∀ {fs : Option (List (Str × V))} {d : Option Addr} {S T : FP}, (∀ a, S a → T a) → XF F H S p fs d → XF F H T p fs d
  | none, none, _, _, _, q => q
  | some l, some dx, S, T, h, ⟨a, b⟩ => ⟨h _ a, b⟩
theorem XF.step {p : Addr} (st : Stp F H S F' H') : ∀ {fs : Option (List (Str × V))} {d : Option Addr} {T : FP}, (∀ a, T a → ¬ S a) → XF F H T p fs d → XF F' H' T p fs d
  | none, none, _, _, q => q
  | some l, some dx, T, h, ⟨a, b, c, n⟩ => ⟨a, st.fz dx b (by rw [c]; simp) (h dx a), st.fr dx _ c (h dx a), n⟩
mutual
theorem Own.mono : ∀ {o : O} {v : V} {S T : FP}, (∀ a, S a → T a) → Own K F H o v S → Own K F H o v T
  | .fr d, v, S, T, h, q => q
  | .ol os, v, S, T, h, ⟨p, vs, U, e, a, b, c, d, f, g⟩ => ⟨p, vs, U, e, h _ a, b, c, fun x y => h x (d x y), f, g⟩
  | .ot os, v, S, T, h, ⟨p, vs, U, e, a, b, c, d, f, g⟩ => ⟨p, vs, U, e, h _ a, b, c, fun x y => h x (d x y), f, g⟩
  | .od ks os, v, S, T, h, ⟨p, vs, U, e, a, b, c, c1, d, f, g⟩ => ⟨p, vs, U, e, h _ a, b, c, c1, fun x y => h x (d x y), f, g⟩
  | .oi C ns os, v, S, T, h, ⟨p, dx, vs, U, e, a, a1, b, b1, c, c1, c2, d, f, f1, g⟩ => ⟨p, dx, vs, U, e, h _ a, h _ a1, b, b1, c, c1, c2, fun x y => h x (d x y), f, f1, g⟩
  | .ox C fs, v, S, T, h, ⟨p, d, e, a, b, c, x⟩ => ⟨p, d, e, h _ a, b, c, x.mono h⟩
theorem Owns.mono : ∀ {os : List O} {vs : List V} {S T : FP}, (∀ a, S a → T a) → Owns K F H os vs S → Owns K F H os vs T
  | [], vs, S, T, h, q => q
  | o :: os, vs, S, T, h, ⟨v, vs', S1, S2, e, a, b, c, d, f⟩ => ⟨v, vs', S1, S2, e, fun x y => h x (a x y), fun x y => h x (b x y), c, d, f⟩
end
mutual
theorem Own.step (st : Stp F H S F' H') : ∀ {o : O} {v : V} {T : FP}, (∀ a, T a → ¬ S a) → Own K F H o v T → Own K F' H' o v T
  | .fr d, v, T, h, q => dp_ex st.ex q
  | .ol os, v, T, h, ⟨p, vs, U, e, a, b, c, d, f, g⟩ => ⟨p, vs, U, e, a, st.fz p b (by rw [c]; simp) (h p a), st.fr p _ c (h p a), d, f, Owns.step st (fun x y => h x (d x y)) g⟩
  | .ot os, v, T, h, ⟨p, vs, U, e, a, b, c, d, f, g⟩ => ⟨p, vs, U, e, a, st.fz p b (by rw [c]; simp) (h p a), st.fr p _ c (h p a), d, f, Owns.step st (fun x y => h x (d x y)) g⟩
  | .od ks os, v, T, h, ⟨p, vs, U, e, a, b, c, c1, d, f, g⟩ => ⟨p, vs, U, e, a, st.fz p b (by rw [c]; simp) (h p a), st.fr p _ c (h p a), c1, d, f, Owns.step st (fun x y => h x (d x y)) g⟩
  | .oi C ns os, v, T, h, ⟨p, dx, vs, U, e, a, a1, b, b1, c, c1, c2, d, f, f1, g⟩ => ⟨p, dx, vs, U, e, a, a1, st.fz p b (by rw [c]; simp) (h p a), st.fz dx b1 (by rw [c1]; simp) (h dx a1), st.fr p _ c (h p a), st.fr dx _ c1 (h dx a1), c2, d, f, f1, Owns.step st (fun x y => h x (d x y)) g⟩
  | .ox C fs, v, T, h, ⟨p, d, e, a, b, c, x⟩ => ⟨p, d, e, a, st.fz p b (by rw [c]; simp) (h p a), st.fr p _ c (h p a), x.step st h⟩
theorem Owns.step (st : Stp F H S F' H') : ∀ {os : List O} {vs : List V} {T : FP}, (∀ a, T a → ¬ S a) → Owns K F H os vs T → Owns K F' H' os vs T
  | [], vs, T, h, q => q
  | o :: os, vs, T, h, ⟨v, vs', S1, S2, e, a, b, c, d, f⟩ => ⟨v, vs', S1, S2, e, a, b, c, Own.step st (fun x y => h x (a x y)) d, Owns.step st (fun x y => h x (b x y)) f⟩
end
def Tg (H : Hp) (S : FP) : FP := fun a => S a ∧ H a ≠ none
theorem tg_sub : ∀ a, Tg H S a → S a := fun _ h => h.1
theorem XF.tight {p : Addr} : ∀ {fs : Option (List (Str × V))} {d : Option Addr} {T : FP}, XF F H T p fs d → XF F H (Tg H T) p fs d
  | none, none, _, q => q
  | some l, some dx, T, ⟨a, b, c, n⟩ => ⟨⟨a, by rw [c]; simp⟩, b, c, n⟩
mutual
theorem Own.tight : ∀ {o : O} {v : V} {T : FP}, Own K F H o v T → Own K F H o v (Tg H T)
  | .fr d, v, T, q => q
  | .ol os, v, T, ⟨p, vs, U, e, a, b, c, d, f, g⟩ => ⟨p, vs, Tg H U, e, ⟨a, by rw [c]; simp⟩, b, c, fun x y => ⟨d x y.1, y.2⟩, fun z => f z.1, Owns.tight g⟩
  | .ot os, v, T, ⟨p, vs, U, e, a, b, c, d, f, g⟩ => ⟨p, vs, Tg H U, e, ⟨a, by rw [c]; simp⟩, b, c, fun x y => ⟨d x y.1, y.2⟩, fun z => f z.1, Owns.tight g⟩
  | .od ks os, v, T, ⟨p, vs, U, e, a, b, c, c1, d, f, g⟩ => ⟨p, vs, Tg H U, e, ⟨a, by rw [c]; simp⟩, b, c, c1, fun x y => ⟨d x y.1, y.2⟩, fun z => f z.1, Owns.tight g⟩
  | .oi C ns os, v, T, ⟨p, dx, vs, U, e, a, a1, b, b1, c, c1, c2, d, f, f1, g⟩ => ⟨p, dx, vs, Tg H U, e, ⟨a, by rw [c]; simp⟩, ⟨a1, by rw [c1]; simp⟩, b, b1, c, c1, c2, fun x y => ⟨d x y.1, y.2⟩, fun z => f z.1, fun z => f1 z.1, Owns.tight g⟩
  | .ox C fs, v, T, ⟨p, d, e, a, b, c, x⟩ => ⟨p, d, e, ⟨a, by rw [c]; simp⟩, b, c, x.tight⟩
theorem Owns.tight : ∀ {os : List O} {vs : List V} {T : FP}, Owns K F H os vs T → Owns K F H os vs (Tg H T)
  | [], vs, T, q => q
  | o :: os, vs, T, ⟨v, vs', S1, S2, e, a, b, c, d, f⟩ => ⟨v, vs', Tg H S1, Tg H S2, e, fun x y => ⟨a x y.1, y.2⟩, fun x y => ⟨b x y.1, y.2⟩, fun x y z => c x y.1 z.1, Own.tight d, Owns.tight f⟩
end
/-! ### slots -/
def Slots (K : PySem.W.Frag) (F H : Hp) : Env → L2.St → FP → Prop
  | [], σ, _ => σ = []
  | none :: ρ, σ, S => ∃ v σ', σ = v :: σ' ∧ Slots K F H ρ σ' S
  | some o :: ρ, σ, S => ∃ v σ' S1 S2, σ = some v :: σ' ∧ (∀ a, S1 a → S a) ∧ (∀ a, S2 a → S a) ∧ (∀ a, S1 a → ¬ S2 a) ∧ Own K F H o v S1 ∧ Slots K F H ρ σ' S2
structure ST (K : PySem.W.Frag) (F H : Hp) (σ : L2.St) (ρ : Env) (S : FP) : Prop where
  ex : Ex F H
  sl : Slots K F H ρ σ S
theorem Slots.mono : ∀ {ρ : Env} {σ : L2.St} {S T : FP}, (∀ a, S a → T a) → Slots K F H ρ σ S → Slots K F H ρ σ T
  | [], _, _, _, _, q => q
  | none :: ρ, σ, S, T, h, ⟨v, σ', e, q⟩ => ⟨v, σ', e, Slots.mono h q⟩
  | some o :: ρ, σ, S, T, h, ⟨v, σ', S1, S2, e, a, b, c, d, f⟩ => ⟨v, σ', S1, S2, e, fun x y => h x (a x y), fun x y => h x (b x y), c, d, f⟩
theorem Slots.step (st : Stp F H S F' H') : ∀ {ρ : Env} {σ : L2.St} {T : FP}, (∀ a, T a → ¬ S a) → Slots K F H ρ σ T → Slots K F' H' ρ σ T
  | [], _, _, _, q => q
  | none :: ρ, σ, T, h, ⟨v, σ', e, q⟩ => ⟨v, σ', e, Slots.step st h q⟩
  | some o :: ρ, σ, T, h, ⟨v, σ', S1, S2, e, a, b, c, d, f⟩ => ⟨v, σ', S1, S2, e, a, b, c, Own.step st (fun x y => h x (a x y)) d, Slots.step st (fun x y => h x (b x y)) f⟩
theorem Slots.tight : ∀ {ρ : Env} {σ : L2.St} {T : FP}, Slots K F H ρ σ T → Slots K F H ρ σ (Tg H T)
  | [], _, _, q => q
  | none :: ρ, σ, T, ⟨v, σ', e, q⟩ => ⟨v, σ', e, Slots.tight q⟩
  | some o :: ρ, σ, T, ⟨v, σ', S1, S2, e, a, b, c, d, f⟩ => ⟨v, σ', Tg H S1, Tg H S2, e, fun x y => ⟨a x y.1, y.2⟩, fun x y => ⟨b x y.1, y.2⟩, fun x y z => c x y.1 z.1, d.tight, Slots.tight f⟩
theorem Slots.length : ∀ {ρ : Env} {σ : L2.St} {S : FP}, Slots K F H ρ σ S → σ.length = ρ.length
  | [], _, _, q => by subst q; rfl
  | none :: ρ, _, _, ⟨v, σ', e, q⟩ => by subst e; simp [Slots.length q]
  | some o :: ρ, _, _, ⟨v, σ', S1, S2, e, a, b, c, d, f⟩ => by subst e; simp [Slots.length f]
/-- a slot is taken out -/
theorem Slots.take : ∀ {ρ : Env} {σ : L2.St} {S : FP} {i : Nat} {o : O}, Slots K F H ρ σ S → ρ[i]? = some (some o) →
    ∃ v S1 S2, σ[i]? = some (some v) ∧ (∀ a, S1 a → S a) ∧ (∀ a, S2 a → S a) ∧ (∀ a, S1 a → ¬ S2 a) ∧ Own K F H o v S1 ∧ Slots K F H (ρ.set i none) σ S2
  | [], _, _, _, _, _, h => by simp at h
  | none :: ρ, _, S, 0, o, _, h => by simp at h
  | none :: ρ, _, S, i + 1, o, ⟨v, σ', e, q⟩, h => by
    obtain ⟨w, S1, S2, a, b, c, d, f, g⟩ := Slots.take (i := i) q (by simpa using h)
    exact ⟨w, S1, S2, by subst e; simpa using a, b, c, d, f, v, σ', e, g⟩
  | some o' :: ρ, _, S, 0, o, ⟨v, σ', S1, S2, e, a, b, c, d, f⟩, h => by
    have h' : o' = o := by simpa using h
    subst h'
    exact ⟨v, S1, S2, by subst e; simp, a, b, c, d, some v, σ', e, f⟩
  | some o' :: ρ, _, S, i + 1, o, ⟨v, σ', S1, S2, e, a, b, c, d, f⟩, h => by
    obtain ⟨w, T1, T2, a', b', c', d', f', g'⟩ := Slots.take (i := i) f (by simpa using h)
    refine ⟨w, T1, fun x => S1 x ∨ T2 x, by subst e; simpa using a', fun x y => b x (b' x y), fun x y => y.elim (a x) fun z => b x (c' x z), fun x y z => ?_, f', ?_⟩
    · rcases z with z | z
      · exact c x z (b' x y)
      · exact d' x y z
    · exact ⟨v, σ', S1, T2, e, fun x y => .inl y, fun x y => .inr y, fun x y z => c x y (c' x z), d, g'⟩
theorem Slots.fr {ρ : Env} {σ : L2.St} {i : Nat} {d : D} (q : Slots K F H ρ σ S) (h : ρ[i]? = some (some (.fr d))) : ∃ v, σ[i]? = some (some v) ∧ Dp K F v d := by
  obtain ⟨v, _, _, a, _, _, _, f, _⟩ := q.take h
  exact ⟨v, a, f⟩
/-- a slot is filled -/
theorem Slots.put : ∀ {ρ : Env} {σ : L2.St} {S S1 : FP} {i : Nat} {o : O} {v : V}, Slots K F H ρ σ S → i < ρ.length → Own K F H o v S1 → (∀ a, S1 a → ¬ S a) → Slots K F H (ρ.set i (some o)) (σ.set i (some v)) (fun a => S1 a ∨ S a)
  | [], _, _, _, _, _, _, _, h, _, _ => by simp at h
  | none :: ρ, _, S, S1, 0, o, v, ⟨w, σ', e, q⟩, _, r, dj => by
    subst e
    exact ⟨v, σ', S1, S, rfl, fun _ y => .inl y, fun _ y => .inr y, dj, r, q⟩
  | some o' :: ρ, _, S, S1, 0, o, v, ⟨w, σ', T1, T2, e, a, b, c, d, f⟩, _, r, dj => by
    subst e
    exact ⟨v, σ', S1, T2, rfl, fun _ y => .inl y, fun x y => .inr (b x y), fun x y z => dj x y (b x z), r, f⟩
  | none :: ρ, _, S, S1, i + 1, o, v, ⟨w, σ', e, q⟩, h, r, dj => by
    subst e
    exact ⟨w, σ'.set i (some v), rfl, Slots.put (i := i) q (by simpa using h) r dj⟩
  | some o' :: ρ, _, S, S1, i + 1, o, v, ⟨w, σ', T1, T2, e, a, b, c, d, f⟩, h, r, dj => by
    subst e
    refine ⟨w, σ'.set i (some v), T1, fun x => S1 x ∨ T2 x, rfl, fun x y => .inr (a x y), fun x y => y.imp id (b x), fun x y z => ?_, d, Slots.put (i := i) f (by simpa using h) r fun x y z => dj x y (b x z)⟩
    rcases z with z | z
    · exact dj x z (a x y)
    · exact c x y z
/-- a slot is forgotten: whatever it holds -/
theorem Slots.drop : ∀ {ρ : Env} {σ : L2.St} {S : FP} {i : Nat} {v : Option V}, Slots K F H ρ σ S → Slots K F H (ρ.set i none) (σ.set i v) S
  | [], _, _, _, _, q => by subst q; simp [Slots]
  | none :: ρ, _, S, 0, v, ⟨w, σ', e, q⟩ => by subst e; exact ⟨v, σ', rfl, q⟩
  | some o' :: ρ, _, S, 0, v, ⟨w, σ', T1, T2, e, a, b, c, d, f⟩ => by subst e; exact ⟨v, σ', rfl, f.mono b⟩
  | none :: ρ, _, S, i + 1, v, ⟨w, σ', e, q⟩ => by subst e; exact ⟨w, σ'.set i v, rfl, Slots.drop (i := i) q⟩
  | some o' :: ρ, _, S, i + 1, v, ⟨w, σ', T1, T2, e, a, b, c, d, f⟩ => by subst e; exact ⟨w, σ'.set i v, T1, T2, rfl, a, b, c, d, Slots.drop (i := i) f⟩
theorem Slots.drop0 {ρ : Env} {σ : L2.St} {S : FP} {i : Nat} (q : Slots K F H ρ σ S) : Slots K F H (ρ.set i none) σ S := by
  by_cases hi : i < σ.length
  · have := q.drop (i := i) (v := σ[i])
    rwa [List.set_getElem_self] at this
  · have hl := q.length
    rw [List.set_eq_of_length_le (by omega)]
    exact q
theorem Slots.putK {ρ : Env} {σ : L2.St} {S S1 : FP} {i : Nat} {o : O} {v : V} (q : Slots K F H ρ σ S) (hv : σ[i]? = some (some v)) (r : Own K F H o v S1) (dj : ∀ a, S1 a → ¬ S a) : Slots K F H (ρ.set i (some o)) σ (fun a => S1 a ∨ S a) := by
  obtain ⟨hi, e⟩ := List.getElem?_eq_some_iff.mp hv
  have := q.put (i := i) (by have := q.length; omega) r dj
  rwa [← e, List.set_getElem_self] at this
/-! ### freezing -/
/-- what an owned thing is, as data -/
def er1 : O → D
  | .fr d => d
  | _ => .none
mutual
def er : O → D
  | .fr d => d
  | .ol os => .list (ers os)
  | .ot os => .tuple (ers os)
  | .od _ _ => .none
  | .oi _ _ _ => .none
  | .ox _ _ => .none
def ers : List O → List D
  | [] => []
  | o :: os => er o :: ers os
end
/- lists and tuples alone -/
mutual
def flt : O → Bool
  | .fr _ => true
  | .ol os => flts os
  | .ot os => flts os
  | .od _ _ => false
  | .oi _ _ _ => false
  | .ox _ _ => false
def flts : List O → Bool
  | [] => true
  | o :: os => flt o && flts os
end
mutual
theorem Own.view (e : Ex F H) : ∀ {o : O} {v : V} {T : FP}, flt o = true → Own K F H o v T → Dp K H v (er o)
  | .fr d, v, T, _, q => dp_ex e q
  | .ol os, v, T, h, ⟨p, vs, U, ev, a, b, c, d, f, g⟩ => by
    subst ev
    unfold er
    exact .lst (SqL.of c) (Owns.view e (by unfold flt at h; exact h) g)
  | .ot os, v, T, h, ⟨p, vs, U, ev, a, b, c, d, f, g⟩ => by
    subst ev
    unfold er
    exact .tup (SqT.of c) (Owns.view e (by unfold flt at h; exact h) g)
  | .od _ _, _, _, h, _ => by unfold flt at h; cases h
  | .oi _ _ _, _, _, h, _ => by unfold flt at h; cases h
  | .ox _ _, _, _, h, _ => by unfold flt at h; cases h
theorem Owns.view (e : Ex F H) : ∀ {os : List O} {vs : List V} {T : FP}, flts os = true → Owns K F H os vs T → DpAll K H vs (ers os)
  | [], vs, T, _, q => by
    have q : vs = [] := q
    subst q
    unfold ers
    exact .nil
  | o :: os, vs, T, h, ⟨v, vs', S1, S2, ev, a, b, c, d, f⟩ => by
    subst ev
    unfold flts at h
    rw [Bool.and_eq_true] at h
    unfold ers
    exact .cons (Own.view e h.1 d) (Owns.view e h.2 f)
end
/-- the frozen heap with what stands at S -/
noncomputable def frz (F H : Hp) (S : FP) : Hp := fun a => open Classical in if S a then H a else F a
theorem frz_ex (e : Ex F H) : Ex F (frz F H S) := fun a o h => by
  unfold frz
  split
  · exact e a o h
  · exact h
theorem frz_ex2 (e : Ex F H) : Ex (frz F H S) H := fun a o h => by
  unfold frz at h
  split at h
  · exact h
  · exact e a o h
theorem frz_fz {a : Addr} (h : F a = none) (hs : ¬ S a) : frz F H S a = none := by
  unfold frz
  rw [if_neg hs]
  exact h
mutual
theorem Own.frzD (e : Ex F H) : ∀ {o : O} {v : V} {T : FP}, flt o = true → (∀ a, T a → S a) → Own K F H o v T → Dp K (frz F H S) v (er o)
  | .fr d, v, T, _, _, q => dp_ex (frz_ex e) q
  | .ol os, v, T, h, hs, ⟨p, vs, U, ev, a, b, c, d, f, g⟩ => by
    subst ev
    unfold er
    exact .lst (SqL.of (by unfold frz; rw [if_pos (hs p a)]; exact c)) (Owns.frzD e (by unfold flt at h; exact h) (fun x y => hs x (d x y)) g)
  | .ot os, v, T, h, hs, ⟨p, vs, U, ev, a, b, c, d, f, g⟩ => by
    subst ev
    unfold er
    exact .tup (SqT.of (by unfold frz; rw [if_pos (hs p a)]; exact c)) (Owns.frzD e (by unfold flt at h; exact h) (fun x y => hs x (d x y)) g)
  | .od _ _, _, _, h, _, _ => by unfold flt at h; cases h
  | .oi _ _ _, _, _, h, _, _ => by unfold flt at h; cases h
  | .ox _ _, _, _, h, _, _ => by unfold flt at h; cases h
theorem Owns.frzD (e : Ex F H) : ∀ {os : List O} {vs : List V} {T : FP}, flts os = true → (∀ a, T a → S a) → Owns K F H os vs T → DpAll K (frz F H S) vs (ers os)
  | [], vs, T, _, _, q => by
    have q : vs = [] := q
    subst q
    unfold ers
    exact .nil
  | o :: os, vs, T, h, hs, ⟨v, vs', S1, S2, ev, a, b, c, d, f⟩ => by
    subst ev
    unfold flts at h
    rw [Bool.and_eq_true] at h
    unfold ers
    exact .cons (Own.frzD e h.1 (fun x y => hs x (a x y)) d) (Owns.frzD e h.2 (fun x y => hs x (b x y)) f)
end
end
end DL
set_option Elab.async false
set_option linter.all false
set_option maxRecDepth 100000
set_option maxHeartbeats 4000000
namespace DL
open PySem PySem.Spec PyProof.Rows L2
/-- an exception, as data: its class, its own fields -/
abbrev XD := Value × Option (List (Str × V))
def XR (H : Hp) (xd : XD) (cls : Value) (d : Option Addr) : Prop := xd.1 = cls ∧ match d, xd.2 with
  | none, none => True
  | some dd, some fs => H dd = some (.xd fs)
  | _, _ => False
abbrev XP := XD → Env → Prop
abbrev ET := Env → (O → Env → Prop) → XP → Prop
abbrev BT := Env → (Bool → Env → Prop) → XP → Prop
section
variable {K : PySem.W.Frag} {F H F1 H1 F2 H2 F' H' : Hp} {S S1 S2 T U : FP} {σ σ' : L2.St} {ρ ρ' : Env}
def Dj (S T : FP) : Prop := ∀ a, S a → ¬ T a
def Un2 (S T : FP) : FP := fun a => S a ∨ T a
theorem Dj.sym (h : Dj S T) : Dj T S := fun a x y => h a y x
/-- what an expression's end may use -/
def PostE (K : PySem.W.Frag) (F H : Hp) (σ : L2.St) (S : FP) (q : O → Env → Prop) (Q : VK) : Prop :=
  ∀ o v ρ' F' H' T S', ST K F' H' σ ρ' S' → Own K F' H' o v T → Dj T S' → Stp F H S F' H' → Fresh H S (Un2 T S') → q o ρ' → Q v H'
def PostB (K : PySem.W.Frag) (F H : Hp) (σ : L2.St) (S : FP) (q : Bool → Env → Prop) (Q : Bool → Hp → Prop) : Prop :=
  ∀ b ρ' F' H' S', ST K F' H' σ ρ' S' → Stp F H S F' H' → Fresh H S S' → q b ρ' → Q b H'
def PostX (K : PySem.W.Frag) (F H : Hp) (σ : L2.St) (S : FP) (x : XP) (W : XK) : Prop :=
  ∀ xd cls d ρ' F' H' S', ST K F' H' σ ρ' S' → Stp F H S F' H' → Fresh H S S' → XR H' xd cls d → x xd ρ' → W cls d H'
theorem PostX.after {x : XP} {W : XK} (p : PostX K F H σ S x W) (a : Stp F H S F1 H1) (n : Fresh H S S1) : PostX K F1 H1 σ S1 x W :=
  fun xd cls d ρ' F' H' S' st b m r h => p xd cls d ρ' F' H' S' st (a.trans n b) (Fresh.trans a n m) r h
def Sim (K : PySem.W.Frag) (W : XK) (te : TE) (t : ET) : Prop :=
  ∀ F H σ ρ S q x Q, ST K F H σ ρ S → t ρ q x → PostE K F H σ S q Q → PostX K F H σ S x W → te σ H Q
def SimT (K : PySem.W.Frag) (W : XK) (te : TT) (t : BT) : Prop :=
  ∀ F H σ ρ S q x Q, ST K F H σ ρ S → t ρ q x → PostB K F H σ S q Q → PostX K F H σ S x W → te σ H Q
theorem ST.set0 {i : Nat} (h : ST K F H σ ρ S) : ST K F H σ (ρ.set i none) S := ⟨h.ex, h.sl.drop0⟩
theorem ST.mono (h : ST K F H σ ρ S) (m : ∀ a, S a → T a) : ST K F H σ ρ T := ⟨h.ex, h.sl.mono m⟩
/-- a thing held while another is evaluated -/
theorem hold {o : O} {v : V} (r : Own K F1 H1 o v T) (dj : Dj T S1) (st : Stp F1 H1 S1 F2 H2) (n : Fresh H1 S1 U) : Own K F2 H2 o v (Tg H1 T) ∧ Dj (Tg H1 T) U :=
  ⟨Own.step st (fun a x => dj a x.1) r.tight, fun a x y => (n a y).elim (dj a x.1) x.2⟩
theorem holds {os : List O} {vs : List V} (r : Owns K F1 H1 os vs T) (dj : Dj T S1) (st : Stp F1 H1 S1 F2 H2) (n : Fresh H1 S1 U) : Owns K F2 H2 os vs (Tg H1 T) ∧ Dj (Tg H1 T) U :=
  ⟨Owns.step st (fun a x => dj a x.1) r.tight, fun a x y => (n a y).elim (dj a x.1) x.2⟩
theorem holdS (r : Slots K F1 H1 ρ σ T) (dj : Dj T S1) (st : Stp F1 H1 S1 F2 H2) (n : Fresh H1 S1 U) : Slots K F2 H2 ρ σ (Tg H1 T) ∧ Dj (Tg H1 T) U :=
  ⟨Slots.step st (fun a x => dj a x.1) r.tight, fun a x y => (n a y).elim (dj a x.1) x.2⟩
/-! ### names, constants -/
@[simp] def dVar (i : Nat) : ET := fun ρ q _ => match ρ[i]? with
  | some (some (.fr d)) => q (.fr d) ρ
  | _ => False
@[simp] def dMove (i : Nat) : ET := fun ρ q _ => match ρ[i]? with
  | some (some o) => q o (ρ.set i none)
  | _ => False
@[simp] def dC (d : D) : ET := fun ρ q _ => q (.fr d) ρ
variable {W : XK}
theorem sim_var {i : Nat} : Sim K W (tVar i) (dVar i) := fun F H σ ρ S q x Q st h p _ => by
  unfold dVar at h
  split at h
  · rename_i d e
    obtain ⟨v, hv, r⟩ := st.sl.fr e
    exact ⟨v, hv, p (.fr d) v ρ F H (fun _ => False) S st r (fun _ z => z.elim) Stp.refl (fun a z => z.elim (fun y => y.elim) .inl) h⟩
  · exact h.elim
theorem sim_move {i : Nat} : Sim K W (tVar i) (dMove i) := fun F H σ ρ S q x Q st h p _ => by
  unfold dMove at h
  split at h
  · rename_i o e
    obtain ⟨v, S1, S2, hv, a, b, c, d, f⟩ := st.sl.take e
    exact ⟨v, hv, p o v _ F H S1 S2 ⟨st.ex, f⟩ d c Stp.refl (fun y z => .inl (z.elim (a y) (b y))) h⟩
  · exact h.elim
theorem sim_c {v : V} {d : D} (hd : ∀ H, Dp K H v d) : Sim K W (tC v) (dC d) := fun F H σ ρ S q x Q st h p _ =>
  p (.fr d) v ρ F H (fun _ => False) S st (hd F) (fun _ z => z.elim) Stp.refl (fun a z => z.elim (fun y => y.elim) .inl) h
/-! ### value-level operations: arguments, then the result -/
def RPost (K : PySem.W.Frag) (F H : Hp) (S : FP) (q : O → Prop) (Q : VK) : Prop :=
  ∀ o v F' H' T, Ex F' H' → Own K F' H' o v T → Stp F H S F' H' → Fresh H S T → q o → Q v H'
abbrev OF := List O → (O → Prop) → Prop
def CSim (K : PySem.W.Frag) (r : List V → Hp → VK → Prop) (f : OF) : Prop :=
  ∀ F H os vs S q Q, Ex F H → Owns K F H os vs S → f os q → RPost K F H S q Q → r vs H Q
def R2Sim (K : PySem.W.Frag) (r : R2) (f : OF) : Prop :=
  ∀ F H o1 o2 x y S q Q, Ex F H → Owns K F H [o1, o2] [x, y] S → f [o1, o2] q → RPost K F H S q Q → r x y H Q
def R1Sim (K : PySem.W.Frag) (r : V → Hp → VK → Prop) (f : OF) : Prop :=
  ∀ F H o x S q Q, Ex F H → Owns K F H [o] [x] S → f [o] q → RPost K F H S q Q → r x H Q
/-- scalars: what reads off the heap alone and gives a flat thing -/
def scal (K : PySem.W.Frag) (v : V) (d : D) : Prop := ∀ H, Dp K H v d
theorem scal_int {i : Int} : scal K (.int i) (.int i) := fun _ => .int i
theorem scal_bl {b : Bool} : scal K (.bl b) (.bool b) := fun _ => .bl b
theorem scal_str {x : Str} : scal K (.str x) (.str x) := fun _ => .str x
theorem scal_non : scal K .non .none := fun _ => .non
theorem rpost_s {S : FP} {q : O → Prop} {Q : VK} {v : V} {d : D} (p : RPost K F H S q Q) (e : Ex F H) (s : scal K v d) (h : q (.fr d)) : Q v H :=
  p (.fr d) v F H (fun _ => False) e (s F) Stp.refl (fun _ z => z.elim) h
/-- a new object, owned -/
theorem stp_new {S : FP} {p : Addr} {o : HO} (h : H p = none) : Stp F H S F (upd H p o) :=
  ⟨Ex.refl F, fun a u e _ => by rw [upd_ne (ne_of_none e h)]; exact e, fun a h _ _ => h⟩
/-- a new object, frozen -/
theorem stp_newF {S : FP} {p : Addr} {o : HO} (e : Ex F H) (h : H p = none) : Stp F H S (upd F p o) (upd H p o) :=
  ⟨Ex.new (e.back h), fun a u e _ => by rw [upd_ne (ne_of_none e h)]; exact e, fun a hf hn _ => by
    rw [upd_ne (fun z => hn (by rw [z]; exact h))]; exact hf⟩
theorem ex_new {p : Addr} {o : HO} (e : Ex F H) : Ex (upd F p o) (upd H p o) := fun a u h => by
  by_cases z : a = p
  · subst z; rw [upd_same] at h ⊢; exact h
  · rw [upd_ne z] at h ⊢; exact e a u h
theorem ex_new1 {p : Addr} {o : HO} (e : Ex F H) (h : H p = none) : Ex F (upd H p o) := e.trans (Ex.new h)
/-! ### composition -/
@[simp] def dOp (f : OF) (a b : ET) : ET := fun ρ q x => a ρ (fun o1 ρ1 => b ρ1 (fun o2 ρ2 => f [o1, o2] fun o => q o ρ2) x) x
@[simp] def dUn (f : OF) (a : ET) : ET := fun ρ q x => a ρ (fun o1 ρ1 => f [o1] fun o => q o ρ1) x
theorem owns1 {o : O} {v : V} (h : Own K F H o v T) : Owns K F H [o] [v] T := ⟨v, [], T, fun _ => False, rfl, fun _ z => z, fun _ z => z.elim, fun _ _ z => z, h, rfl⟩
theorem owns2 {o1 o2 : O} {v1 v2 : V} {T1 T2 : FP} (h1 : Own K F H o1 v1 T1) (h2 : Own K F H o2 v2 T2) (dj : Dj T1 T2) : Owns K F H [o1, o2] [v1, v2] (Un2 T1 T2) :=
  ⟨v1, [v2], T1, T2, rfl, fun _ z => .inl z, fun _ z => .inr z, dj, h1, owns1 h2⟩
/-- the end of an operation under an environment -/
theorem rpost {q : O → Env → Prop} {Q : VK} {σ : L2.St} {ρ1 : Env} (p : PostE K F H σ S q Q) (st1 : Stp F H S F1 H1) (n1 : Fresh H S (Un2 T S1)) (s1 : ST K F1 H1 σ ρ1 S1) (dj : Dj T S1) :
    RPost K F1 H1 T (fun o => q o ρ1) Q := fun o v F' H' T' e r st n h => by
  have hs : Slots K F' H' ρ1 σ (Tg H1 S1) ∧ Dj (Tg H1 S1) T' := holdS s1.sl dj.sym st n
  refine p o v ρ1 F' H' T' (Tg H1 S1) ⟨e, hs.1⟩ r hs.2.sym ?_ ?_ h
  · exact st1.trans n1 (st.mono fun c z => .inl z)
  · intro a z
    rcases z with z | z
    · rcases n a z with y | y
      · exact n1 a (.inl y)
      · exact Fresh.trans (S' := T') st1 n1 (fun c hc => (n c hc).imp .inl id) a z
    · exact n1 a (.inr z.1)
theorem sim_op {r : R2} {f : OF} {ta tb : TE} {a b : ET} (hr : R2Sim K r f) (ha : Sim K W ta a) (hb : Sim K W tb b) : Sim K W (tOp r ta tb) (dOp f a b) := fun F H σ ρ S q x Q st h p px => by
  refine ha F H σ ρ S _ x _ st h (fun o1 v1 ρ1 F1 H1 T1 S1 s1 r1 d1 st1 n1 h1 => ?_) px
  refine hb F1 H1 σ ρ1 S1 _ x _ s1 h1 (fun o2 v2 ρ2 F2 H2 T2 S2 s2 r2 d2 st2 n2 h2 => ?_) (px.after st1 (n1.sub fun _ z => .inr z))
  obtain ⟨q1, q2⟩ := hold r1 d1 st2 n2
  have n3 : Fresh H S (Un2 (Un2 (Tg H1 T1) T2) S2) := by
    intro a z
    rcases z with (z | z) | z
    · exact n1 a (.inl z.1)
    · exact Fresh.trans st1 (n1.sub fun _ z => .inr z) n2 a (.inl z)
    · exact Fresh.trans st1 (n1.sub fun _ z => .inr z) n2 a (.inr z)
  refine hr F2 H2 o1 o2 v1 v2 (Un2 (Tg H1 T1) T2) (fun o => q o ρ2) Q s2.ex (owns2 q1 r2 fun a y z => q2 a y (.inl z)) h2 ?_
  exact rpost p (st1.trans (n1.sub fun _ z => .inr z) st2) n3 s2 fun a z => z.elim (fun y w => q2 a y (.inr w)) (d2 a)
theorem sim_un {r : V → Hp → VK → Prop} {f : OF} {ta : TE} {a : ET} (hr : R1Sim K r f) (ha : Sim K W ta a) : Sim K W (tUn r ta) (dUn f a) := fun F H σ ρ S q x Q st h p px => by
  refine ha F H σ ρ S _ x _ st h (fun o1 v1 ρ1 F1 H1 T1 S1 s1 r1 d1 st1 n1 h1 => ?_) px
  exact hr F1 H1 o1 v1 T1 (fun o => q o ρ1) Q s1.ex (owns1 r1) h1 (rpost p st1 n1 s1 d1)
/-! ### argument lists (values) -/
abbrev AT := Env → (List O → Env → Prop) → XP → Prop
def PostA (K : PySem.W.Frag) (F H : Hp) (σ : L2.St) (S : FP) (q : List O → Env → Prop) (Q : List V → Hp → Prop) : Prop :=
  ∀ os vs ρ' F' H' T S', ST K F' H' σ ρ' S' → Owns K F' H' os vs T → Dj T S' → Stp F H S F' H' → Fresh H S (Un2 T S') → q os ρ' → Q vs H'
def SimA (K : PySem.W.Frag) (W : XK) (ta : TA) (t : AT) : Prop :=
  ∀ F H σ ρ S q x Q, ST K F H σ ρ S → t ρ q x → PostA K F H σ S q Q → PostX K F H σ S x W → ta σ H Q
@[simp] def dNil : AT := fun ρ q _ => q [] ρ
@[simp] def dCons (a : ET) (b : AT) : AT := fun ρ q x => a ρ (fun o ρ1 => b ρ1 (fun os ρ2 => q (o :: os) ρ2) x) x
theorem sim_nil : SimA K W tNil dNil := fun F H σ ρ S q x Q st h p _ =>
  p [] [] ρ F H (fun _ => False) S st rfl (fun _ z => z.elim) Stp.refl (fun a z => z.elim (fun y => y.elim) .inl) h
theorem sim_cons {ta : TE} {tr : TA} {a : ET} {b : AT} (ha : Sim K W ta a) (hb : SimA K W tr b) : SimA K W (tCons ta tr) (dCons a b) := fun F H σ ρ S q x Q st h p px => by
  refine ha F H σ ρ S _ x _ st h (fun o1 v1 ρ1 F1 H1 T1 S1 s1 r1 d1 st1 n1 h1 => ?_) px
  refine hb F1 H1 σ ρ1 S1 _ x _ s1 h1 (fun os vs ρ2 F2 H2 T2 S2 s2 r2 d2 st2 n2 h2 => ?_) (px.after st1 (n1.sub fun _ z => .inr z))
  obtain ⟨q1, q2⟩ := hold r1 d1 st2 n2
  refine p (o1 :: os) (v1 :: vs) ρ2 F2 H2 (Un2 (Tg H1 T1) T2) S2 s2 ⟨v1, vs, _, _, rfl, fun _ z => .inl z, fun _ z => .inr z, fun a y z => q2 a y (.inl z), q1, r2⟩
    (fun a z => z.elim (fun y w => q2 a y (.inr w)) (d2 a)) (st1.trans (n1.sub fun _ z => .inr z) st2) ?_ h2
  intro a z
  rcases z with (z | z) | z
  · exact n1 a (.inl z.1)
  · exact Fresh.trans st1 (n1.sub fun _ z => .inr z) n2 a (.inl z)
  · exact Fresh.trans st1 (n1.sub fun _ z => .inr z) n2 a (.inr z)
/-- a built-in's call -/
@[simp] def dCB (f : OF) (a : AT) : ET := fun ρ q x => a ρ (fun os ρ1 => f os fun o => q o ρ1) x
theorem sim_cb {r : List V → Hp → VK → Prop} {f : OF} {ta : TA} {a : AT} (hr : CSim K r f) (ha : SimA K W ta a) : Sim K W (tCB r ta) (dCB f a) := fun F H σ ρ S q x Q st h p px => by
  refine ha F H σ ρ S _ x _ st h (fun os vs ρ1 F1 H1 T1 S1 s1 r1 d1 st1 n1 h1 => ?_) px
  exact hr F1 H1 os vs T1 (fun o => q o ρ1) Q s1.ex r1 h1 (rpost p st1 n1 s1 d1)
/-- displays -/
@[simp] def fTup : OF := fun os q => os.length ≤ sizeLine ∧ q (.ot os)
def fLst : OF := fun os q => os.length ≤ sizeLine ∧ q (.ol os)
theorem owns_len : ∀ {os : List O} {vs : List V} {T : FP}, Owns K F H os vs T → vs.length = os.length
  | [], _, _, h => by
    have h : _ = [] := h
    rw [h]; rfl
  | o :: os, _, _, ⟨v, vs', S1, S2, e, _, _, _, _, h⟩ => by rw [e]; simp [owns_len h]
@[simp] def dTup (a : AT) : ET := fun ρ q x => a ρ (fun os ρ1 => os.length ≤ sizeLine ∧ q (.ot os) ρ1) x
@[simp] def dLst (a : AT) : ET := fun ρ q x => a ρ (fun os ρ1 => os.length ≤ sizeLine ∧ q (.ol os) ρ1) x
theorem own_newL {os : List O} {vs : List V} {p : Addr} (e : Ex F H) (r : Owns K F H os vs T) (hp : H p = none) : Own K F (upd H p (.lst vs)) (.ol os) (.ref p) (Un2 (Tg H T) (fun a => a = p)) := by
  have st : Stp F H (fun _ => False) F (upd H p (.lst vs)) := stp_new hp
  exact ⟨p, vs, Tg H T, rfl, .inr rfl, e.back hp, upd_same, fun _ z => .inl z, fun z => z.2 hp, Owns.step st (fun _ _ z => z) r.tight⟩
theorem own_newT {os : List O} {vs : List V} {p : Addr} (e : Ex F H) (r : Owns K F H os vs T) (hp : H p = none) : Own K F (upd H p (.tup vs)) (.ot os) (.ref p) (Un2 (Tg H T) (fun a => a = p)) := by
  have st : Stp F H (fun _ => False) F (upd H p (.tup vs)) := stp_new hp
  exact ⟨p, vs, Tg H T, rfl, .inr rfl, e.back hp, upd_same, fun _ z => .inl z, fun z => z.2 hp, Owns.step st (fun _ _ z => z) r.tight⟩
theorem sim_tup {ta : TA} {a : AT} (ha : SimA K W ta a) : Sim K W (tTup ta) (dTup a) := fun F H σ ρ S q x Q st h p px => by
  refine ha F H σ ρ S _ x _ st h (fun os vs ρ1 F1 H1 T1 S1 s1 r1 d1 st1 n1 h1 => ?_) px
  refine ⟨by rw [owns_len r1]; exact h1.1, fun l hl => ?_⟩
  refine rpost p st1 n1 s1 d1 (.ot os) (.ref l) F1 (upd H1 l (.tup vs)) (Un2 (Tg H1 T1) (fun a => a = l)) (ex_new1 s1.ex hl) (own_newT s1.ex r1 hl) (stp_new hl) (fun a z => ?_) h1.2
  rcases z with z | z
  · exact .inl z.1
  · exact .inr (by rw [z]; exact hl)
theorem sim_lst {ta : TA} {a : AT} (ha : SimA K W ta a) : Sim K W (tLst ta) (dLst a) := fun F H σ ρ S q x Q st h p px => by
  refine ha F H σ ρ S _ x _ st h (fun os vs ρ1 F1 H1 T1 S1 s1 r1 d1 st1 n1 h1 => ?_) px
  refine ⟨by rw [owns_len r1]; exact h1.1, fun l hl => ?_⟩
  refine rpost p st1 n1 s1 d1 (.ol os) (.ref l) F1 (upd H1 l (.lst vs)) (Un2 (Tg H1 T1) (fun a => a = l)) (ex_new1 s1.ex hl) (own_newL s1.ex r1 hl) (stp_new hl) (fun a z => ?_) h1.2
  rcases z with z | z
  · exact .inl z.1
  · exact .inr (by rw [z]; exact hl)
/-! ### ghosts: freezing a value; borrowing -/
@[simp] def dFrz (t : ET) : ET := fun ρ q x => t ρ (fun o ρ' => flt o = true ∧ q (.fr (er o)) ρ') x
theorem stp_frz (e : Ex F H) : Stp F H S (frz F H S) H :=
  ⟨frz_ex e, fun _ _ h _ => h, fun a h _ n => frz_fz h n⟩
theorem sim_frz {te : TE} {t : ET} (h : Sim K W te t) : Sim K W te (dFrz t) := fun F H σ ρ S q x Q st ht p px => by
  refine h F H σ ρ S _ x _ st ht (fun o v ρ' F' H' T S' s1 r d stp n hq => ?_) px
  have q1 := Own.frzD (S := T) s1.ex hq.1 (fun _ z => z) r
  have hs : Stp F' H' T (frz F' H' T) H' := stp_frz s1.ex
  refine p (.fr (er o)) v ρ' (frz F' H' T) H' (fun _ => False) S' ⟨frz_ex2 s1.ex, Slots.step hs d.sym s1.sl⟩ q1 (fun _ z => z.elim) ?_ (fun a z => z.elim (fun y => y.elim) fun y => n a (.inr y)) hq.2
  exact stp.trans n (hs.mono fun c z => .inl z)
mutual
@[simp] def cls : O → Bool
  | .fr d => match d with
    | .none => true
    | .bool _ => true
    | .int _ => true
    | .str _ => true
    | _ => false
  | .ol os => clss os
  | .ot os => clss os
  | .od _ os => clss os
  | .oi _ _ os => clss os
  | .ox _ _ => true
@[simp] def clss : List O → Bool
  | [] => true
  | o :: os => cls o && clss os
end
theorem dp_cls {v : V} {d : D} (h : cls (.fr d) = true) (q : Dp K F v d) : Dp K F' v d := by
  cases q with
  | non => exact .non
  | bl b => exact .bl b
  | int i => exact .int i
  | str x => exact .str x
  | lst a b => unfold cls at h; cases h
  | tup a b => unfold cls at h; cases h
theorem XF.back (e : Ex F F') {p : Addr} : ∀ {fs : Option (List (Str × V))} {d : Option Addr} {T : FP}, XF F' H T p fs d → XF F H T p fs d
  | none, none, _, q => q
  | some l, some dx, T, ⟨a, b, c, n⟩ => ⟨a, e.back b, c, n⟩
mutual
theorem Own.cls (e : Ex F F') : ∀ {o : O} {v : V} {T : FP}, DL.cls o = true → Own K F' H o v T → Own K F H o v T
  | .fr d, v, T, h, q => dp_cls h q
  | .ol os, v, T, h, ⟨p, vs, U, ev, a, b, c, d, f, g⟩ => ⟨p, vs, U, ev, a, e.back b, c, d, f, Owns.cls e (by unfold DL.cls at h; exact h) g⟩
  | .ot os, v, T, h, ⟨p, vs, U, ev, a, b, c, d, f, g⟩ => ⟨p, vs, U, ev, a, e.back b, c, d, f, Owns.cls e (by unfold DL.cls at h; exact h) g⟩
  | .od ks os, v, T, h, ⟨p, vs, U, ev, a, b, c, c1, d, f, g⟩ => ⟨p, vs, U, ev, a, e.back b, c, c1, d, f, Owns.cls e (by unfold DL.cls at h; exact h) g⟩
  | .oi C ns os, v, T, h, ⟨p, dx, vs, U, ev, a, a1, b, b1, c, c1, c2, d, f, f1, g⟩ => ⟨p, dx, vs, U, ev, a, a1, e.back b, e.back b1, c, c1, c2, d, f, f1, Owns.cls e (by unfold DL.cls at h; exact h) g⟩
  | .ox C fs, v, T, h, ⟨p, d, ev, a, b, c, x⟩ => ⟨p, d, ev, a, e.back b, c, XF.back e x⟩
theorem Owns.cls (e : Ex F F') : ∀ {os : List O} {vs : List V} {T : FP}, DL.clss os = true → Owns K F' H os vs T → Owns K F H os vs T
  | [], vs, T, _, q => q
  | o :: os, vs, T, h, ⟨v, vs', S1, S2, ev, a, b, c, d, f⟩ => by
    unfold DL.clss at h
    rw [Bool.and_eq_true] at h
    exact ⟨v, vs', S1, S2, ev, a, b, c, Own.cls e h.1 d, Owns.cls e h.2 f⟩
end
@[simp] def vw1 : Option O → Option O
  | some o => if flt o = true then some (.fr (er o)) else none
  | none => none
@[simp] def vw (ρ : Env) : Env := ρ.map vw1
theorem slots_vw (e : Ex F H) : ∀ {ρ : Env} {σ : L2.St} {T : FP}, (∀ a, T a → S a) → Slots K F H ρ σ T → Slots K (frz F H S) H (vw ρ) σ (fun _ => False)
  | [], _, _, _, q => q
  | none :: ρ, σ, T, h, ⟨v, σ', ev, q⟩ => ⟨v, σ', ev, slots_vw e h q⟩
  | some o :: ρ, σ, T, h, ⟨v, σ', S1, S2, ev, a, b, c, d, f⟩ => by
    have ih := slots_vw e (fun x y => h x (b x y)) f
    show Slots K (frz F H S) H ((if flt o = true then some (.fr (er o)) else none) :: vw ρ) σ _
    by_cases hf : flt o = true
    · rw [if_pos hf]
      exact ⟨v, σ', fun _ => False, fun _ => False, ev, fun _ z => z, fun _ z => z, fun _ z => z.elim, Own.frzD e hf (fun x y => h x (a x y)) d, ih⟩
    · rw [if_neg hf]
      exact ⟨some v, σ', ev, ih⟩
@[simp] def dBor (t : ET) : ET := fun ρ q _ => t (vw ρ) (fun o _ => cls o = true ∧ q o ρ) fun _ _ => False
theorem ex_of_stp0 (st : Stp F H (fun _ => False) F' H') : Ex H H' := fun a o h => st.fr a o h id
theorem slots_ex (e : Ex H H') : Slots K F H ρ σ S → Slots K F H' ρ σ S := fun h =>
  Slots.step (S := fun _ => False) ⟨Ex.refl F, fun a o q _ => e a o q, fun _ q _ _ => q⟩ (fun _ _ z => z) h
theorem sim_bor {te : TE} {t : ET} (h : Sim K W te t) : Sim K W te (dBor t) := fun F H σ ρ S q x Q st ht p px => by
  refine h (frz F H S) H σ (vw ρ) (fun _ => False) _ _ _ ⟨frz_ex2 st.ex, slots_vw st.ex (fun _ z => z) st.sl⟩ ht (fun o v ρ' F' H' T S' s1 r d stp n hq => ?_) (fun _ _ _ _ _ _ _ _ _ _ _ z => z.elim)
  have e1 : Ex H H' := ex_of_stp0 stp
  have eF : Ex F F' := (frz_ex st.ex).trans stp.ex
  have q1 : Own K F H' o v T := Own.cls eF hq.1 r
  have nT : ∀ a, T a → H a = none := fun a z => (n a (.inl z)).elim (fun y => y.elim) id
  refine p o v ρ F H' T (Tg H S) ⟨st.ex.trans e1, slots_ex e1 st.sl.tight⟩ q1 (fun a y z => z.2 (nT a y)) ?_ ?_ hq.2
  · exact ⟨Ex.refl F, fun a o' h' _ => e1 a o' h', fun a h' _ _ => h'⟩
  · intro a z
    rcases z with z | z
    · exact .inr (nT a z)
    · exact .inl z.1
/-! ### tests -/
@[simp] def dTest (t : ET) : BT := fun ρ q x => t ρ (fun o ρ' => match o with
  | .fr (.bool b) => q b ρ'
  | _ => False) x
theorem sim_test_core {te : TE} {t : ET} (h : Sim K W te t) : SimT K W (fun σ H Q => te σ H fun x H' => ∃ k, x = .bl k ∧ Q k H') (dTest t) := fun F H σ ρ S q x Q st ht p px => by
  refine h F H σ ρ S _ x _ st ht (fun o v ρ' F' H' T S' s1 r d stp n hq => ?_) px
  split at hq
  · rename_i b
    cases r
    exact ⟨b, rfl, p b ρ' F' H' S' s1 stp (n.sub fun _ z => .inr z) hq⟩
  · exact hq.elim
theorem sim_test {te : TE} {t : ET} (h : Sim K W te t) : SimT K W (tTest te) (dTest t) := sim_test_core h
theorem sim_B {te : TE} {t : ET} (h : Sim K W te t) : SimT K W (tB te) (dTest t) := sim_test_core h
@[simp] def dAnd (t u : BT) : BT := fun ρ q x => t ρ (fun b ρ1 => if b = true then u ρ1 q x else q false ρ1) x
@[simp] def dOr (t u : BT) : BT := fun ρ q x => t ρ (fun b ρ1 => if b = true then q true ρ1 else u ρ1 q x) x
@[simp] def dNot (t : BT) : BT := fun ρ q x => t ρ (fun b ρ1 => q (!b) ρ1) x
theorem PostB.after {q : Bool → Env → Prop} {Q : Bool → Hp → Prop} (p : PostB K F H σ S q Q) (a : Stp F H S F1 H1) (n : Fresh H S S1) : PostB K F1 H1 σ S1 q Q :=
  fun b ρ' F' H' S' st s m h => p b ρ' F' H' S' st (a.trans n s) (Fresh.trans a n m) h
theorem PostE.after {q : O → Env → Prop} {Q : VK} (p : PostE K F H σ S q Q) (a : Stp F H S F1 H1) (n : Fresh H S S1) : PostE K F1 H1 σ S1 q Q :=
  fun o v ρ' F' H' T S' st r d s m h => p o v ρ' F' H' T S' st r d (a.trans n s) (Fresh.trans a n m) h
theorem sim_and {ta tb : TT} {a b : BT} (ha : SimT K W ta a) (hb : SimT K W tb b) : SimT K W (tAnd ta tb) (dAnd a b) := fun F H σ ρ S q x Q st ht p px => by
  refine ha F H σ ρ S _ x _ st ht (fun c ρ' F' H' S' s1 stp n hq => ?_) px
  cases c with
  | true => exact hb F' H' σ ρ' S' q x Q s1 hq (p.after stp n) (px.after stp n)
  | false => exact p false ρ' F' H' S' s1 stp n hq
theorem sim_or {ta tb : TT} {a b : BT} (ha : SimT K W ta a) (hb : SimT K W tb b) : SimT K W (tOr ta tb) (dOr a b) := fun F H σ ρ S q x Q st ht p px => by
  refine ha F H σ ρ S _ x _ st ht (fun c ρ' F' H' S' s1 stp n hq => ?_) px
  cases c with
  | false => exact hb F' H' σ ρ' S' q x Q s1 hq (p.after stp n) (px.after stp n)
  | true => exact p true ρ' F' H' S' s1 stp n hq
theorem sim_not {ta : TT} {a : BT} (ha : SimT K W ta a) : SimT K W (tNot ta) (dNot a) := fun F H σ ρ S q x Q st ht p px =>
  ha F H σ ρ S _ x _ st ht (fun c ρ' F' H' S' s1 stp n hq => p (!c) ρ' F' H' S' s1 stp n hq) px
/-- a test under a borrow -/
@[simp] def dBorT (t : BT) : BT := fun ρ q _ => t (vw ρ) (fun b _ => q b ρ) fun _ _ => False
theorem sim_borT {te : TT} {t : BT} (h : SimT K W te t) : SimT K W te (dBorT t) := fun F H σ ρ S q x Q st ht p px => by
  refine h (frz F H S) H σ (vw ρ) (fun _ => False) _ _ _ ⟨frz_ex2 st.ex, slots_vw st.ex (fun _ z => z) st.sl⟩ ht (fun b ρ' F' H' S' s1 stp n hq => ?_) (fun _ _ _ _ _ _ _ _ _ _ _ z => z.elim)
  have e1 : Ex H H' := ex_of_stp0 stp
  refine p b ρ F H' (Tg H S) ⟨st.ex.trans e1, slots_ex e1 st.sl.tight⟩ ?_ (fun a z => .inl z.1) hq
  exact ⟨Ex.refl F, fun a o' h' _ => e1 a o' h', fun a h' _ _ => h'⟩
/-- a and b, a or b, not a as values -/
@[simp] def dAndV (a b : ET) : ET := fun ρ q x => a ρ (fun o ρ1 => match o with
  | .fr (.bool c) => if c = true then b ρ1 q x else q (.fr (.bool false)) ρ1
  | _ => False) x
@[simp] def dOrV (a b : ET) : ET := fun ρ q x => a ρ (fun o ρ1 => match o with
  | .fr (.bool c) => if c = true then q (.fr (.bool true)) ρ1 else b ρ1 q x
  | _ => False) x
@[simp] def dNotV (a : ET) : ET := fun ρ q x => a ρ (fun o ρ1 => match o with
  | .fr (.bool c) => q (.fr (.bool (!c))) ρ1
  | _ => False) x
theorem sim_andV {ta tb : TE} {a b : ET} (ha : Sim K W ta a) (hb : Sim K W tb b) : Sim K W (tAndV ta tb) (dAndV a b) := fun F H σ ρ S q x Q st h p px => by
  refine ha F H σ ρ S _ x _ st h (fun o v ρ1 F1 H1 T1 S1 s1 r1 d1 st1 n1 h1 => ?_) px
  split at h1
  · rename_i c
    cases r1
    have n2 := n1.sub (T := S1) fun _ z => .inr z
    refine ⟨c, rfl, ?_⟩
    cases c with
    | true => exact hb F1 H1 σ ρ1 S1 q x Q s1 h1 (p.after st1 n2) (px.after st1 n2)
    | false => exact p (.fr (.bool false)) _ ρ1 F1 H1 (fun _ => False) S1 s1 (scal_bl F1) (fun _ z => z.elim) st1 (fun a z => z.elim (fun y => y.elim) (n2 a)) h1
  · exact h1.elim
theorem sim_orV {ta tb : TE} {a b : ET} (ha : Sim K W ta a) (hb : Sim K W tb b) : Sim K W (tOrV ta tb) (dOrV a b) := fun F H σ ρ S q x Q st h p px => by
  refine ha F H σ ρ S _ x _ st h (fun o v ρ1 F1 H1 T1 S1 s1 r1 d1 st1 n1 h1 => ?_) px
  split at h1
  · rename_i c
    cases r1
    have n2 := n1.sub (T := S1) fun _ z => .inr z
    refine ⟨c, rfl, ?_⟩
    cases c with
    | false => exact hb F1 H1 σ ρ1 S1 q x Q s1 h1 (p.after st1 n2) (px.after st1 n2)
    | true => exact p (.fr (.bool true)) _ ρ1 F1 H1 (fun _ => False) S1 s1 (scal_bl F1) (fun _ z => z.elim) st1 (fun a z => z.elim (fun y => y.elim) (n2 a)) h1
  · exact h1.elim
theorem sim_notV {ta : TE} {a : ET} (ha : Sim K W ta a) : Sim K W (tNotV ta) (dNotV a) := fun F H σ ρ S q x Q st h p px => by
  refine ha F H σ ρ S _ x _ st h (fun o v ρ1 F1 H1 T1 S1 s1 r1 d1 st1 n1 h1 => ?_) px
  split at h1
  · rename_i c
    cases r1
    have n2 := n1.sub (T := S1) fun _ z => .inr z
    exact ⟨c, rfl, p (.fr (.bool (!c))) _ ρ1 F1 H1 (fun _ => False) S1 s1 (scal_bl F1) (fun _ z => z.elim) st1 (fun a z => z.elim (fun y => y.elim) (n2 a)) h1⟩
  · exact h1.elim
@[simp] def dIf (t : BT) (a b : ET) : ET := fun ρ q x => t ρ (fun c ρ1 => if c = true then a ρ1 q x else b ρ1 q x) x
theorem sim_if {tt : TT} {ta tb : TE} {t : BT} {a b : ET} (ht : SimT K W tt t) (ha : Sim K W ta a) (hb : Sim K W tb b) : Sim K W (tIf tt ta tb) (dIf t a b) := fun F H σ ρ S q x Q st h p px => by
  refine ht F H σ ρ S _ x _ st h (fun c ρ1 F1 H1 S1 s1 st1 n1 h1 => ?_) px
  cases c with
  | true => exact ha F1 H1 σ ρ1 S1 q x Q s1 h1 (p.after st1 n1) (px.after st1 n1)
  | false => exact hb F1 H1 σ ρ1 S1 q x Q s1 h1 (p.after st1 n1) (px.after st1 n1)
end
end DL
set_option Elab.async false
set_option linter.all false
set_option maxRecDepth 100000
set_option maxHeartbeats 4000000
namespace DL
open PySem PySem.Spec PyProof.Rows L2
section
variable {K : PySem.W.Frag} {F H F1 H1 F2 H2 F' H' : Hp} {S S1 S2 T U : FP} {σ σ' : L2.St} {ρ ρ' : Env} {W : XK}
/-! ### statements -/
def Keep (kp : List Nat) (σ σ' : L2.St) : Prop := ∀ i ∈ kp, σ'[i]? = σ[i]?
theorem Keep.refl {kp : List Nat} : Keep kp σ σ := fun _ _ => rfl
theorem Keep.trans {kp : List Nat} {σ1 σ2 σ3 : L2.St} (a : Keep kp σ1 σ2) (b : Keep kp σ2 σ3) : Keep kp σ1 σ3 := fun i h => (b i h).trans (a i h)
structure EE where
  nx : Env → Prop
  rt : O → Env → Prop
  bk : Env → Prop := fun _ => False
  ct : Env → Prop := fun _ => False
  xc : XP := fun _ _ => False
structure PostS (K : PySem.W.Frag) (W : XK) (kp : List Nat) (F H : Hp) (S : FP) (σ : L2.St) (D : Ends) (E : EE) : Prop where
  nx : ∀ σ' ρ' F' H' S', ST K F' H' σ' ρ' S' → Stp F H S F' H' → Fresh H S S' → Keep kp σ σ' → E.nx ρ' → D.nx σ' H'
  bk : ∀ σ' ρ' F' H' S', ST K F' H' σ' ρ' S' → Stp F H S F' H' → Fresh H S S' → Keep kp σ σ' → E.bk ρ' → D.bk σ' H'
  ct : ∀ σ' ρ' F' H' S', ST K F' H' σ' ρ' S' → Stp F H S F' H' → Fresh H S S' → Keep kp σ σ' → E.ct ρ' → D.ct σ' H'
  rt : ∀ o v σ' ρ' F' H' T S', ST K F' H' σ' ρ' S' → Own K F' H' o v T → Dj T S' → Stp F H S F' H' → Fresh H S (Un2 T S') → Keep kp σ σ' → E.rt o ρ' → D.rt v H'
  xc : ∀ xd cls d σ' ρ' F' H' S', ST K F' H' σ' ρ' S' → Stp F H S F' H' → Fresh H S S' → Keep kp σ σ' → XR H' xd cls d → E.xc xd ρ' → W cls d H'
abbrev DT := EE → Env → Prop
def SimS (K : PySem.W.Frag) (W : XK) (kp : List Nat) (ts : TS) (t : DT) : Prop :=
  ∀ F H σ ρ S D E, ST K F H σ ρ S → t E ρ → PostS K W kp F H S σ D E → ts D σ H
theorem PostS.after {kp : List Nat} {D : Ends} {E : EE} (p : PostS K W kp F H S σ D E) (a : Stp F H S F1 H1) (n : Fresh H S S1) (k : Keep kp σ σ') : PostS K W kp F1 H1 S1 σ' D E where
  nx := fun σ2 ρ' F' H' S' st b m k2 h => p.nx σ2 ρ' F' H' S' st (a.trans n b) (Fresh.trans a n m) (k.trans k2) h
  bk := fun σ2 ρ' F' H' S' st b m k2 h => p.bk σ2 ρ' F' H' S' st (a.trans n b) (Fresh.trans a n m) (k.trans k2) h
  ct := fun σ2 ρ' F' H' S' st b m k2 h => p.ct σ2 ρ' F' H' S' st (a.trans n b) (Fresh.trans a n m) (k.trans k2) h
  rt := fun o v σ2 ρ' F' H' T S' st r d b m k2 h => p.rt o v σ2 ρ' F' H' T S' st r d (a.trans n b) (Fresh.trans a n m) (k.trans k2) h
  xc := fun xd c d σ2 ρ' F' H' S' st b m k2 r h => p.xc xd c d σ2 ρ' F' H' S' st (a.trans n b) (Fresh.trans a n m) (k.trans k2) r h
theorem PostS.px {kp : List Nat} {D : Ends} {E : EE} (p : PostS K W kp F H S σ D E) : PostX K F H σ S E.xc W :=
  fun xd c d ρ' F' H' S' st b m r h => p.xc xd c d σ ρ' F' H' S' st b m Keep.refl r h
@[simp] def dSeq (t u : DT) : DT := fun E ρ => t { E with nx := u E } ρ
@[simp] def dNext : DT := fun E ρ => E.nx ρ
@[simp] def dBreak : DT := fun E ρ => E.bk ρ
@[simp] def dCont : DT := fun E ρ => E.ct ρ
@[simp] def dNever : DT := fun _ _ => False
variable {kp : List Nat}
theorem sims_next : SimS K W kp tNext dNext := fun F H σ ρ S D E st h p => p.nx σ ρ F H S st Stp.refl Fresh.refl Keep.refl h
theorem sims_break : SimS K W kp tBreak dBreak := fun F H σ ρ S D E st h p => p.bk σ ρ F H S st Stp.refl Fresh.refl Keep.refl h
theorem sims_cont : SimS K W kp tCont dCont := fun F H σ ρ S D E st h p => p.ct σ ρ F H S st Stp.refl Fresh.refl Keep.refl h
theorem sims_never : SimS K W kp tNever dNever := fun F H σ ρ S D E st h p => h.elim
theorem sims_seq {ta tb : TS} {a b : DT} (ha : SimS K W kp ta a) (hb : SimS K W kp tb b) : SimS K W kp (tSeq ta tb) (dSeq a b) := fun F H σ ρ S D E st h p =>
  ha F H σ ρ S _ _ st h ⟨fun σ' ρ' F' H' S' s1 stp n k hq => hb F' H' σ' ρ' S' D E s1 hq (p.after stp n k), p.bk, p.ct, p.rt, p.xc⟩
@[simp] def dDrop (t : ET) : DT := fun E ρ => t ρ (fun _ ρ1 => E.nx ρ1) E.xc
theorem sims_drop {te : TE} {t : ET} (h : Sim K W te t) : SimS K W kp (tDrop te) (dDrop t) := fun F H σ ρ S D E st ht p =>
  h F H σ ρ S _ _ _ st ht (fun o v ρ' F' H' T S' s1 r d stp n hq => p.nx σ ρ' F' H' S' s1 stp (n.sub fun _ z => .inr z) Keep.refl hq) p.px
@[simp] def dRet (t : ET) : DT := fun E ρ => t ρ E.rt E.xc
theorem sims_ret {te : TE} {t : ET} (h : Sim K W te t) : SimS K W kp (tRet te) (dRet t) := fun F H σ ρ S D E st ht p =>
  h F H σ ρ S _ _ _ st ht (fun o v ρ' F' H' T S' s1 r d stp n hq => p.rt o v σ ρ' F' H' T S' s1 r d stp n Keep.refl hq) p.px
@[simp] def dRetN : DT := fun E ρ => E.rt (.fr .none) ρ
theorem sims_retN : SimS K W kp tRetN dRetN := fun F H σ ρ S D E st ht p =>
  p.rt (.fr .none) .non σ ρ F H (fun _ => False) S st (scal_non F) (fun _ z => z.elim) Stp.refl (fun a z => z.elim (fun y => y.elim) .inl) Keep.refl ht
@[simp] def dIfS (c : BT) (t u : DT) : DT := fun E ρ => c ρ (fun b ρ1 => if b = true then t E ρ1 else u E ρ1) E.xc
theorem sims_if {tc : TT} {tt tu : TS} {c : BT} {t u : DT} (hc : SimT K W tc c) (ht : SimS K W kp tt t) (hu : SimS K W kp tu u) : SimS K W kp (tIfS tc tt tu) (dIfS c t u) := fun F H σ ρ S D E st h p =>
  hc F H σ ρ S _ _ _ st h (fun b ρ' F' H' S' s1 stp n hq => by
    cases b with
    | true => exact ht F' H' σ ρ' S' D E s1 hq (p.after stp n Keep.refl)
    | false => exact hu F' H' σ ρ' S' D E s1 hq (p.after stp n Keep.refl)) p.px
/-! ### targets -/
abbrev GT := O → Env → (Env → Prop) → Prop
abbrev GTs := List O → Env → (Env → Prop) → Prop
def SimG (K : PySem.W.Frag) (kp : List Nat) (g : TG) (gd : GT) : Prop :=
  ∀ F H σ ρ S o v T q Q, ST K F H σ ρ S → Own K F H o v T → Dj T S → gd o ρ q →
    (∀ σ' ρ' F' H' S', ST K F' H' σ' ρ' S' → Stp F H (Un2 T S) F' H' → Fresh H (Un2 T S) S' → Keep kp σ σ' → σ'.length = σ.length → q ρ' → Q σ' H') → g v σ H Q
def SimGs (K : PySem.W.Frag) (kp : List Nat) (g : TGs) (gd : GTs) : Prop :=
  ∀ F H σ ρ S os vs T q Q, ST K F H σ ρ S → Owns K F H os vs T → Dj T S → gd os ρ q →
    (∀ σ' ρ' F' H' S', ST K F' H' σ' ρ' S' → Stp F H (Un2 T S) F' H' → Fresh H (Un2 T S) S' → Keep kp σ σ' → σ'.length = σ.length → q ρ' → Q σ' H') → g vs σ H Q
@[simp] def dName (i : Nat) : GT := fun o ρ q => match ρ[i]? with
  | some _ => q (ρ.set i (some o))
  | none => False
theorem simg_name {i : Nat} (hk : i ∉ kp) : SimG K kp (gName i) (dName i) := fun F H σ ρ S o v T q Q st r d h p => by
  unfold dName at h
  split at h
  · rename_i z e
    have hi : i < ρ.length := (List.getElem?_eq_some_iff.mp e).1
    refine p (σ.set i (some v)) _ F H _ ⟨st.ex, st.sl.put hi r d⟩ Stp.refl (fun a z => .inl z) (fun j hj => ?_) (by simp) h
    rw [List.getElem?_set_ne]
    intro z
    exact hk (z ▸ hj)
  · exact h.elim
@[simp] def dGNil : GTs := fun os ρ q => match os with
  | [] => q ρ
  | _ => False
@[simp] def dGCons (g : GT) (u : GTs) : GTs := fun os ρ q => match os with
  | o :: r => g o ρ fun ρ1 => u r ρ1 q
  | _ => False
theorem simg_nil : SimGs K kp gNil dGNil := fun F H σ ρ S os vs T q Q st r d h p => by
  unfold dGNil at h
  split at h
  · exact ⟨r, p σ ρ F H S st Stp.refl (fun a z => .inl (.inr z)) Keep.refl rfl h⟩
  · exact h.elim
theorem simg_cons {g : TG} {u : TGs} {gd : GT} {ud : GTs} (hg : SimG K kp g gd) (hu : SimGs K kp u ud) : SimGs K kp (gCons g u) (dGCons gd ud) := fun F H σ ρ S os vs T q Q st r d h p => by
  unfold dGCons at h
  split at h
  · rename_i o os'
    obtain ⟨v, vs', T1, T2, e, a, b, c, r1, r2⟩ := r
    refine ⟨v, vs', e, hg F H σ ρ S o v T1 _ _ st r1 (fun x y => d x (a x y)) h fun σ1 ρ1 F1 H1 S1 s1 st1 n1 k1 l1 h1 => ?_⟩
    have dj : Dj T2 (Un2 T1 S) := fun x y z => z.elim (fun w => c x w y) (d x (b x y))
    obtain ⟨q1, q2⟩ := holds r2 dj st1 n1
    refine hu F1 H1 σ1 ρ1 S1 os' vs' (Tg H T2) q Q s1 q1 q2 h1 fun σ2 ρ2 F2 H2 S2 s2 st2 n2 k2 l2 h2 => ?_
    have m1 : Fresh H (Un2 T S) (Un2 (Tg H T2) S1) := fun x z => z.elim (fun w => .inl (.inl (b x w.1))) fun w => (n1 x w).imp (fun y => y.imp (a x) id) id
    have st1' : Stp F H (Un2 T S) F1 H1 := st1.mono fun x z => z.imp (a x) id
    exact p σ2 ρ2 F2 H2 S2 s2 (st1'.trans m1 st2) (Fresh.trans st1' m1 n2) (k1.trans k2) (l2.trans l1) h2
  · exact h.elim
@[simp] def dGTup (n : Nat) (u : GTs) : GT := fun o ρ q => match o with
  | .fr (.tuple ds) => ds.length = n ∧ u (ds.map .fr) ρ q
  | .ot os => os.length = n ∧ u os ρ q
  | _ => False
theorem owns_fr : ∀ {ds : List D} {vs : List V}, DpAll K F vs ds → Owns K F H (ds.map .fr) vs (fun _ => False)
  | _, _, .nil => rfl
  | _, _, .cons h r => ⟨_, _, fun _ => False, fun _ => False, rfl, fun _ z => z, fun _ z => z, fun _ z => z.elim, h, owns_fr r⟩
theorem dps_len : ∀ {ds : List D} {vs : List V}, DpAll K F vs ds → vs.length = ds.length
  | _, _, .nil => rfl
  | _, _, .cons _ r => by simp [dps_len r]
theorem simg_tup {u : TGs} {ud : GTs} {n : Nat} (hu : SimGs K kp u ud) : SimG K kp (gTup K n u) (dGTup n ud) := fun F H σ ρ S o v T q Q st r d h p => by
  unfold dGTup at h
  split at h
  · rename_i ds
    cases (show Dp K F v (.tuple ds) from r) with
    | tup hs ha =>
      obtain ⟨l, h⟩ := h
      refine ⟨_, _, rfl, st.ex.t hs, by rw [dps_len ha]; exact l, ?_⟩
      refine hu F H σ ρ S _ _ (fun _ => False) q Q st (owns_fr ha) (fun _ z => z.elim) h fun σ1 ρ1 F1 H1 S1 s1 st1 n1 k1 l1 h1 => ?_
      exact p σ1 ρ1 F1 H1 S1 s1 (st1.mono fun x z => .inr (z.elim (fun y => y.elim) id)) (n1.mono fun x z => .inr (z.elim (fun y => y.elim) id)) k1 l1 h1
  · rename_i os
    obtain ⟨a, vs, U, e, hS, hF, hH, hU, nU, ro⟩ := r
    obtain ⟨l, h⟩ := h
    refine ⟨a, vs, e, SqT.of hH, by rw [owns_len ro]; exact l, ?_⟩
    refine hu F H σ ρ S os vs U q Q st ro (fun x y => d x (hU x y)) h fun σ1 ρ1 F1 H1 S1 s1 st1 n1 k1 l1 h1 => ?_
    exact p σ1 ρ1 F1 H1 S1 s1 (st1.mono fun x z => z.imp (hU x) id) (n1.mono fun x z => z.imp (hU x) id) k1 l1 h1
  · exact h.elim
@[simp] def dAsg (t : ET) (g : GT) : DT := fun E ρ => t ρ (fun o ρ1 => g o ρ1 E.nx) E.xc
theorem sims_asg {te : TE} {g : TG} {t : ET} {gd : GT} (h : Sim K W te t) (hg : SimG K kp g gd) : SimS K W kp (tAsg te g) (dAsg t gd) := fun F H σ ρ S D E st ht p =>
  h F H σ ρ S _ _ _ st ht (fun o v ρ' F' H' T S' s1 r d stp n hq =>
    hg F' H' σ ρ' S' o v T _ _ s1 r d hq fun σ1 ρ1 F1 H1 S1 s2 st1 n1 k1 _ h1 => p.nx σ1 ρ1 F1 H1 S1 s2 (stp.trans n st1) (Fresh.trans stp n n1) k1 h1) p.px
/-! ### while -/
def dWhile (c : BT) (b : DT) : DT := fun E ρ => ∃ (I : Env → Prop) (m : Env → Nat), I ρ ∧ ∀ ρ1, I ρ1 → c ρ1 (fun r ρ2 => if r = true then b { E with nx := fun ρ3 => I ρ3 ∧ m ρ3 < m ρ1, ct := fun ρ3 => I ρ3 ∧ m ρ3 < m ρ1, bk := E.nx } ρ2 else E.nx ρ2) E.xc
theorem sims_while {tc : TT} {tb : TS} {c : BT} {b : DT} (hc : SimT K W tc c) (hb : SimS K W kp tb b) : SimS K W kp (tWhile tc tb) (dWhile c b) := fun F H σ ρ S D E st h p => by
  obtain ⟨I, m, i0, turn⟩ := h
  refine ⟨fun k σ1 H1 => ∃ ρ1 F1 S1, ST K F1 H1 σ1 ρ1 S1 ∧ Stp F H S F1 H1 ∧ Fresh H S S1 ∧ Keep kp σ σ1 ∧ I ρ1 ∧ k = m ρ1, ⟨m ρ, ρ, F, S, st, Stp.refl, Fresh.refl, Keep.refl, i0, rfl⟩, ?_⟩
  rintro k σ1 H1 ⟨ρ1, F1, S1, s1, st1, n1, k1, i1, rfl⟩
  have p1 := p.after st1 n1 k1
  refine hc F1 H1 σ1 ρ1 S1 _ _ _ s1 (turn ρ1 i1) (fun r ρ2 F2 H2 S2 s2 st2 n2 h2 => ?_) p1.px
  cases r with
  | false => exact p1.nx σ1 ρ2 F2 H2 S2 s2 st2 n2 Keep.refl h2
  | true =>
    have p2 := p1.after st2 n2 Keep.refl
    have st12 := st1.trans n1 st2
    have n12 := Fresh.trans st1 n1 n2
    refine ⟨fun σ' H' => ∃ ρ3 F3 S3, ST K F3 H' σ' ρ3 S3 ∧ Stp F H S F3 H' ∧ Fresh H S S3 ∧ Keep kp σ σ' ∧ I ρ3 ∧ m ρ3 < m ρ1, fun σ' H' ⟨ρ3, F3, S3, s3, st3, n3, k3, i3, l3⟩ => ⟨m ρ3, l3, ρ3, F3, S3, s3, st3, n3, k3, i3, rfl⟩, ?_⟩
    refine hb F2 H2 σ1 ρ2 S2 _ _ s2 h2 ⟨fun σ3 ρ3 F3 H3 S3 s3 st3 n3 k3 h3 => ?_, fun σ3 ρ3 F3 H3 S3 s3 st3 n3 k3 h3 => ?_, fun σ3 ρ3 F3 H3 S3 s3 st3 n3 k3 h3 => ?_, p2.rt, p2.xc⟩
    · exact ⟨ρ3, F3, S3, s3, st12.trans n12 st3, Fresh.trans st12 n12 n3, k1.trans k3, h3.1, h3.2⟩
    · exact p2.nx σ3 ρ3 F3 H3 S3 s3 st3 n3 k3 h3
    · exact ⟨ρ3, F3, S3, s3, st12.trans n12 st3, Fresh.trans st12 n12 n3, k1.trans k3, h3.1, h3.2⟩
/-! ### what is walked -/
def Walks (K : PySem.W.Frag) (F : Hp) (J : It) (ds : List D) : Prop := ∀ F1 H1, Ex F F1 → Ex F1 H1 →
  (∀ i d, ds[i]? = some d → J.go i H1 ∧ ∀ x H', J.yld i H1 x H' → ∃ F', Ex F' H' ∧ Stp F1 H1 (fun _ => False) F' H' ∧ Dp K F' x d) ∧ J.stop ds.length H1
abbrev IT := Env → (List D → Env → Prop) → XP → Prop
def SimI (K : PySem.W.Frag) (W : XK) (wi : TI) (t : IT) : Prop :=
  ∀ F H σ ρ S q x R, ST K F H σ ρ S → t ρ q x → (∀ ds J ρ' F' H' S', ST K F' H' σ ρ' S' → Walks K F' J ds → Stp F H S F' H' → Fresh H S S' → q ds ρ' → R J H') → PostX K F H σ S x W → wi σ H R
@[simp] def dItems (t : ET) : IT := fun ρ q x => t ρ (fun o ρ1 => match o with
  | .fr (.list ds) => q ds ρ1
  | _ => False) x
@[simp] def dItemsT (t : ET) : IT := fun ρ q x => t ρ (fun o ρ1 => match o with
  | .fr (.tuple ds) => q ds ρ1
  | _ => False) x
theorem dps_get : ∀ {ds : List D} {vs : List V} {i : Nat} {d : D}, DpAll K F vs ds → ds[i]? = some d → ∃ v, vs[i]? = some v ∧ Dp K F v d
  | _, _, _, _, .nil, h => by simp at h
  | _, _, 0, d, .cons h r, e => by
    have e' := by simpa using e
    subst e'
    exact ⟨_, rfl, h⟩
  | _, _, i + 1, d, .cons h r, e => by
    obtain ⟨v, a, b⟩ := dps_get (i := i) r (by simpa using e)
    exact ⟨v, by simpa using a, b⟩
theorem walks_list {a : Addr} {vs : List V} {ds : List D} (h : SqL K F a vs) (r : DpAll K F vs ds) (inj : ∀ H1 xs, Ex F H1 → SqL K H1 a xs → xs = vs) : Walks K F (Itl K a) ds := fun F1 H1 e1 e2 => by
  have h1 : SqL K H1 a vs := e2.l (e1.l h)
  refine ⟨fun i d e => ?_, vs, h1, by rw [dps_len r]; exact Nat.le_refl _⟩
  obtain ⟨v, hv, rv⟩ := dps_get r e
  refine ⟨⟨vs, v, h1, hv⟩, fun x H' ⟨e3, hy⟩ => ?_⟩
  subst e3
  have := hy vs h1
  rw [hv] at this
  cases this
  exact ⟨F1, e2, Stp.refl, dp_ex e1 rv⟩
theorem sim_items {tl : TE} {t : ET} (h : Sim K W tl t) : SimI K W (iList K tl) (dItems t) := fun F H σ ρ S q x R st ht p px => by
  refine h F H σ ρ S _ _ _ st ht (fun o v ρ' F' H' T S' s1 r d stp n hq => ?_) px
  split at hq
  · rename_i ds
    cases (show Dp K F' v (.list ds) from r) with
    | lst hs ha =>
      rename_i a vs
      refine ⟨a, rfl, ⟨_, s1.ex.l hs⟩, p ds (Itl K a) ρ' F' H' S' s1 (fun F1 H1 e1 e2 => ?_) stp (n.sub fun _ z => .inr z) hq⟩
      have h1 : SqL K H1 a vs := e2.l (e1.l hs)
      refine ⟨fun i d e => ?_, vs, h1, by rw [dps_len ha]; exact Nat.le_refl _⟩
      obtain ⟨v, hv, rv⟩ := dps_get ha e
      refine ⟨⟨vs, v, h1, hv⟩, fun x H' ⟨e3, hy⟩ => ?_⟩
      subst e3
      have := hy vs h1
      rw [hv] at this
      cases this
      exact ⟨F1, e2, Stp.refl, dp_ex e1 rv⟩
  · exact hq.elim
theorem sim_itemsT {tl : TE} {t : ET} (h : Sim K W tl t) : SimI K W (iTup K tl) (dItemsT t) := fun F H σ ρ S q x R st ht p px => by
  refine h F H σ ρ S _ _ _ st ht (fun o v ρ' F' H' T S' s1 r d stp n hq => ?_) px
  split at hq
  · rename_i ds
    cases (show Dp K F' v (.tuple ds) from r) with
    | tup hs ha =>
      rename_i a vs
      refine ⟨a, rfl, ⟨_, s1.ex.t hs⟩, p ds (Itt K a) ρ' F' H' S' s1 (fun F1 H1 e1 e2 => ?_) stp (n.sub fun _ z => .inr z) hq⟩
      have h1 : SqT K H1 a vs := e2.t (e1.t hs)
      refine ⟨fun i d e => ?_, vs, h1, by rw [dps_len ha]; exact Nat.le_refl _⟩
      obtain ⟨v, hv, rv⟩ := dps_get ha e
      refine ⟨⟨vs, v, h1, hv⟩, fun x H' ⟨e3, hy⟩ => ?_⟩
      subst e3
      have := hy vs h1
      rw [hv] at this
      cases this
      exact ⟨F1, e2, Stp.refl, dp_ex e1 rv⟩
  · exact hq.elim
def rngD (lo : Int) (n : Nat) : List D := (List.range n).map fun (k : Nat) => PyData.int (lo + (k : Int))
theorem walks_range {lo : Int} {n : Nat} : Walks K F (Itr lo n) (rngD lo n) := fun F1 H1 e1 e2 => by
  refine ⟨fun i d e => ?_, by simp [Itr, rngD]⟩
  unfold rngD at e
  rw [List.getElem?_map] at e
  by_cases hi : i < n
  · rw [List.getElem?_range hi] at e
    have e' : PyData.int (lo + (i : Int)) = d := by simpa using e
    refine ⟨hi, fun x H' ⟨a, b⟩ => ?_⟩
    subst a b e'
    exact ⟨F1, e2, Stp.refl, .int _⟩
  · have : (List.range n)[i]? = none := by simp; omega
    rw [this] at e
    cases e
@[simp] def dRng1 (a : AT) : IT := fun ρ q x => a ρ (fun os ρ1 => match os with
  | [.fr (.int j)] => j < 2 ^ 62 ∧ -(2 ^ 62) ≤ j ∧ q (rngD 0 j.toNat) ρ1
  | _ => False) x
@[simp] def dRng2 (a : AT) : IT := fun ρ q x => a ρ (fun os ρ1 => match os with
  | [.fr (.int i), .fr (.int j)] => (-(2 ^ 62) ≤ i ∧ i < 2 ^ 62 ∧ -(2 ^ 62) ≤ j ∧ j < 2 ^ 62) ∧ q (rngD i (j - i).toNat) ρ1
  | _ => False) x
theorem own_int {i : Int} {v : V} (h : Own K F H (.fr (.int i)) v T) : v = .int i := by
  cases (show Dp K F v (.int i) from h)
  rfl
theorem sim_rng1 {ta : TA} {a : AT} (ha : SimA K W ta a) : SimI K W (iRng1 ta) (dRng1 a) := fun F H σ ρ S q x R st ht p px => by
  refine ha F H σ ρ S _ _ _ st ht (fun os vs ρ' F' H' T S' s1 r d stp n hq => ?_) px
  split at hq
  · rename_i j
    obtain ⟨v, vs', _, _, e, _, _, _, r1, r2⟩ := r
    have r2 : vs' = [] := r2
    subst r2 e
    rw [own_int r1]
    exact ⟨j, rfl, hq.2.1, hq.1, p _ _ ρ' F' H' S' s1 walks_range stp (n.sub fun _ z => .inr z) hq.2.2⟩
  · exact hq.elim
theorem sim_rng2 {ta : TA} {a : AT} (ha : SimA K W ta a) : SimI K W (iRng2 ta) (dRng2 a) := fun F H σ ρ S q x R st ht p px => by
  refine ha F H σ ρ S _ _ _ st ht (fun os vs ρ' F' H' T S' s1 r d stp n hq => ?_) px
  split at hq
  · rename_i i j
    obtain ⟨v, vs', _, _, e, _, _, _, r1, r2⟩ := r
    obtain ⟨v', vs'', _, _, e', _, _, _, r1', r2'⟩ := r2
    have r2' : vs'' = [] := r2'
    subst r2' e' e
    rw [own_int r1, own_int r1']
    exact ⟨i, j, rfl, hq.1, p _ _ ρ' F' H' S' s1 walks_range stp (n.sub fun _ z => .inr z) hq.2⟩
  · exact hq.elim
/-! ### for -/
def dLoop (g : GT) (b : DT) : List D → DT
  | [], E, ρ => E.nx ρ
  | d :: ds, E, ρ => g (.fr d) ρ fun ρ1 => b { E with nx := dLoop g b ds E, ct := dLoop g b ds E, bk := E.nx } ρ1
@[simp] def dFor (i : IT) (g : GT) (b : DT) : DT := fun E ρ => i ρ (fun ds ρ1 => dLoop g b ds E ρ1) E.xc
theorem sims_for {wi : TI} {g : TG} {tb : TS} {i : IT} {gd : GT} {b : DT} (hi : SimI K W wi i) (hg : SimG K kp g gd) (hb : SimS K W kp tb b) : SimS K W kp (tFor wi g tb) (dFor i gd b) := fun F H σ ρ S D E st h p => by
  refine hi F H σ ρ S _ _ _ st h (fun ds J ρ0 F0 H0 S0 s0 wk st0 n0 h0 => ?_) p.px
  have p0 := p.after st0 n0 Keep.refl
  refine ⟨fun k m σ1 H1 => ∃ ρ1 F1 S1, ST K F1 H1 σ1 ρ1 S1 ∧ Stp F0 H0 S0 F1 H1 ∧ Fresh H0 S0 S1 ∧ Keep kp σ σ1 ∧ k ≤ ds.length ∧ m = ds.length - k ∧ dLoop gd b (ds.drop k) E ρ1, ⟨ds.length, ρ0, F0, S0, s0, Stp.refl, Fresh.refl, Keep.refl, Nat.zero_le _, rfl, h0⟩, ?_⟩
  rintro k m σ1 H1 ⟨ρ1, F1, S1, s1, st1, n1, k1, hk, rfl, h1⟩
  have p1 := p0.after st1 n1 k1
  obtain ⟨go, stop⟩ := wk F1 H1 st1.ex s1.ex
  by_cases hlt : k < ds.length
  · refine .inr ?_
    have e : ds[k]? = some ds[k] := List.getElem?_eq_getElem hlt
    obtain ⟨g1, g2⟩ := go k _ e
    rw [List.drop_eq_getElem_cons hlt] at h1
    refine ⟨g1, fun σ' H' => ∃ ρ3 F3 S3, ST K F3 H' σ' ρ3 S3 ∧ Stp F0 H0 S0 F3 H' ∧ Fresh H0 S0 S3 ∧ Keep kp σ σ' ∧ dLoop gd b (ds.drop (k + 1)) E ρ3,
      fun σ' H' ⟨ρ3, F3, S3, s3, st3, n3, k3, h3⟩ => ⟨ds.length - (k + 1), by omega, ρ3, F3, S3, s3, st3, n3, k3, hlt, rfl, h3⟩, fun x H' hy => ?_⟩
    obtain ⟨F2, e2, st2, r2⟩ := g2 x H' hy
    have s2 : ST K F2 H' σ1 ρ1 S1 := ⟨e2, Slots.step st2 (fun _ _ z => z) s1.sl⟩
    have st2' : Stp F1 H1 S1 F2 H' := st2.mono fun _ z => z.elim
    have p2 := p1.after st2' Fresh.refl Keep.refl
    have st12 := st1.trans n1 st2'
    refine hg F2 H' σ1 ρ1 S1 (.fr ds[k]) x (fun _ => False) _ _ s2 r2 (fun _ z => z.elim) h1 fun σ3 ρ3 F3 H3 S3 s3 st3 n3 k3 _ h3 => ?_
    have st3' : Stp F2 H' S1 F3 H3 := st3.mono fun _ z => z.elim (fun y => y.elim) id
    have n3' : Fresh H' S1 S3 := n3.mono fun _ z => z.elim (fun y => y.elim) id
    have p3 := p2.after st3' n3' k3
    have n12 : Fresh H0 S0 S1 := n1
    have st13 := st12.trans n12 st3'
    have n13 := Fresh.trans st12 n12 n3'
    refine hb F3 H3 σ3 ρ3 S3 _ _ s3 h3 ⟨fun σ4 ρ4 F4 H4 S4 s4 st4 n4 k4 h4 => ?_, fun σ4 ρ4 F4 H4 S4 s4 st4 n4 k4 h4 => ?_, fun σ4 ρ4 F4 H4 S4 s4 st4 n4 k4 h4 => ?_, p3.rt, p3.xc⟩
    · exact ⟨ρ4, F4, S4, s4, st13.trans n13 st4, Fresh.trans st13 n13 n4, (k1.trans k3).trans k4, h4⟩
    · exact p3.nx σ4 ρ4 F4 H4 S4 s4 st4 n4 k4 h4
    · exact ⟨ρ4, F4, S4, s4, st13.trans n13 st4, Fresh.trans st13 n13 n4, (k1.trans k3).trans k4, h4⟩
  · have hk' : k = ds.length := by omega
    subst hk'
    refine .inl ⟨stop, ?_⟩
    rw [List.drop_length] at h1
    exact p1.nx σ1 ρ1 F1 H1 S1 s1 Stp.refl Fresh.refl Keep.refl h1
end
end DL
set_option Elab.async false
set_option linter.all false
set_option maxRecDepth 100000
set_option maxHeartbeats 4000000
namespace DL
open PySem PySem.Spec PyProof.Rows L2
section
variable {K : PySem.W.Frag} {F H F1 H1 F2 H2 F' H' : Hp} {S S1 S2 T U : FP} {σ σ' : L2.St} {ρ ρ' : Env} {W : XK} {kp : List Nat}
/-! ### comprehensions -/
@[simp] def wipeE (ρ : Env) : List Nat → Env
  | [] => ρ
  | v :: vs => (wipeE ρ vs).set v none
theorem slots_wipe {vs : List Nat} (h : Slots K F H ρ σ S) : Slots K F H (wipeE ρ vs) (wipe σ vs) S := by
  induction vs with
  | nil => exact h
  | cons v vs ih => exact ih.drop
theorem slots_unwipe {σ2 : L2.St} {vs : List Nat} (h : Slots K F H ρ σ2 S) (hl : σ2.length = σ.length) (e : wipe σ2 vs = wipe σ vs) : Slots K F H (wipeE ρ vs) σ S := by
  have key : ∀ (vs : List Nat) (σ2 σ : L2.St) (ρ : Env), Slots K F H ρ (wipe σ2 vs) S → (∀ i, i ∈ vs → ρ[i]? = some none ∨ ρ[i]? = none) → wipe σ2 vs = wipe σ vs → Slots K F H ρ σ S := by
    intro vs
    induction vs with
    | nil => intro σ2 σ ρ h _ e; rw [show wipe σ [] = σ from rfl, show wipe σ2 [] = σ2 from rfl] at e; rw [← e]; exact h
    | cons v vs ih =>
      intro σ2 σ ρ h hn e
      rw [e] at h
      have h' : Slots K F H ρ ((wipe σ vs).set v none) S := h
      have h2 : Slots K F H ρ (wipe σ vs) S := by
        by_cases hv : v < (wipe σ vs).length
        · have := h'.drop (i := v) (v := (wipe σ vs)[v])
          rw [List.set_set, List.set_getElem_self] at this
          rcases hn v List.mem_cons_self with q | q
          · have e2 : ρ.set v none = ρ := by
              apply List.ext_getElem?
              intro j
              by_cases hj : j = v
              · subst hj
                rw [q]
                obtain ⟨hl, _⟩ := List.getElem?_eq_some_iff.mp q
                simp [hl]
              · rw [List.getElem?_set_ne (Ne.symm hj)]
            rwa [e2] at this
          · rw [List.set_eq_of_length_le (by rw [List.getElem?_eq_none_iff] at q; exact q)] at this
            exact this
        · rw [List.set_eq_of_length_le (by omega)] at h'
          exact h'
      exact ih σ σ ρ h2 (fun i hi => hn i (List.mem_cons_of_mem _ hi)) rfl
  refine key vs σ2 σ _ (slots_wipe h) ?_ e
  intro i hi
  clear h e hl
  induction vs with
  | nil => simp at hi
  | cons v vs ih =>
    show ((wipeE ρ vs).set v none)[i]? = _ ∨ ((wipeE ρ vs).set v none)[i]? = _
    by_cases hv : i = v
    · subst hv
      by_cases hl : i < (wipeE ρ vs).length
      · left; simp [hl]
      · right; simp; omega
    · rw [List.getElem?_set_ne (Ne.symm hv)]
      exact ih ((List.mem_cons.mp hi).resolve_left hv)
@[simp] def dYes : BT := fun ρ q _ => q true ρ
theorem sim_yes : SimT K W tYes dYes := fun F H σ ρ S q x Q st h p _ => p true ρ F H S st Stp.refl Fresh.refl h
def dLcL (g : GT) (tt : BT) (te : ET) (vs : List Nat) (x : XP) : List D → List O → Env → (O → Env → Prop) → Prop
  | [], acc, ρ, q => q (.ol acc) ρ
  | d :: ds, acc, ρ, q => g (.fr d) (wipeE ρ vs) fun ρ2 => tt ρ2 (fun b ρ3 => if b = true then te ρ3 (fun o ρ4 => acc.length < sizeLine ∧ dLcL g tt te vs x ds (acc ++ [o]) (wipeE ρ4 vs) q) x else dLcL g tt te vs x ds acc (wipeE ρ3 vs) q) x
def dLc (i : IT) (g : GT) (tt : BT) (te : ET) (vs : List Nat) : ET := fun ρ q x => i ρ (fun ds ρ1 => dLcL g tt te vs (fun _ _ => False) ds [] (wipeE ρ1 vs) q) x
theorem owns_snoc : ∀ {os : List O} {vs : List V} {o : O} {v : V} {T1 T2 : FP}, Owns K F H os vs T1 → Own K F H o v T2 → Dj T1 T2 → Owns K F H (os ++ [o]) (vs ++ [v]) (Un2 T1 T2)
  | [], vs, o, v, T1, T2, h, r, d => by
    have h : vs = [] := h
    subst h
    exact ⟨v, [], T2, fun _ => False, rfl, fun _ z => .inr z, fun _ z => z.elim, fun _ _ z => z, r, rfl⟩
  | o' :: os, vs, o, v, T1, T2, ⟨v', vs', A, B, e, a, b, c, r1, r2⟩, r, d => by
    subst e
    refine ⟨v', vs' ++ [v], A, Un2 B T2, rfl, fun x y => .inl (a x y), fun x y => y.imp (b x) id, fun x y z => z.elim (c x y) (d x (a x y)), r1, owns_snoc r2 r fun x y => d x (b x y)⟩
/-- another cell changes -/
theorem stp_set {p : Addr} {o : HO} (hF : F p = none) : Stp F H (fun a => a = p) F (upd H p o) :=
  ⟨Ex.refl F, fun a u e n => by rw [upd_ne n]; exact e, fun a h _ _ => h⟩
theorem ex_set {p : Addr} {o : HO} (e : Ex F H) (hF : F p = none) : Ex F (upd H p o) := fun a u h => by
  rw [upd_ne (fun z => by rw [z, hF] at h; cases h)]
  exact e a u h
theorem wipe_get {vs : List Nat} {i : Nat} (h : i ∉ vs) : (wipe σ vs)[i]? = σ[i]? := by
  induction vs with
  | nil => rfl
  | cons v vs ih =>
    show ((wipe σ vs).set v none)[i]? = _
    rw [List.getElem?_set_ne (fun z => h (by rw [z]; exact List.mem_cons_self))]
    exact ih fun z => h (List.mem_cons_of_mem _ z)
theorem wipe_in {vs : List Nat} {i : Nat} (h : i ∈ vs) (hl : i < σ.length) : (wipe σ vs)[i]? = some none := by
  induction vs with
  | nil => simp at h
  | cons v vs ih =>
    show ((wipe σ vs).set v none)[i]? = _
    by_cases e : i = v
    · subst e
      rw [List.getElem?_set_self (by rw [wipe_length]; exact hl)]
    · rw [List.getElem?_set_ne (Ne.symm e)]
      exact ih ((List.mem_cons.mp h).resolve_left e)
theorem wipe_ext {σ3 : L2.St} {vs : List Nat} (hl : σ3.length = σ.length) (h : ∀ i, i ∉ vs → σ3[i]? = σ[i]?) : wipe σ3 vs = wipe σ vs := by
  apply List.ext_getElem?
  intro i
  by_cases hi : i ∈ vs
  · by_cases hl' : i < σ.length
    · rw [wipe_in hi hl', wipe_in hi (by omega)]
    · rw [List.getElem?_eq_none_iff.mpr (by rw [wipe_length]; omega), List.getElem?_eq_none_iff.mpr (by rw [wipe_length]; omega)]
  · rw [wipe_get hi, wipe_get hi]
    exact h i hi
theorem wipe_wipe {vs : List Nat} : wipe (wipe σ vs) vs = wipe σ vs := wipe_ext (wipe_length _ _) fun i hi => wipe_get hi
theorem slots_wipe0 {vs : List Nat} (h : Slots K F H ρ σ S) : Slots K F H (wipeE ρ vs) σ S := by
  induction vs with
  | nil => exact h
  | cons v vs ih => exact ih.drop0
theorem sim_lc {wi : TI} {g : TG} {tt : TT} {te : TE} {vs : List Nat} {i : IT} {gd : GT} {td : BT} {ed : ET} (hi : SimI K W wi i) (hg : ∀ kc : List Nat, (∀ i ∈ vs, i ∉ kc) → SimG K kc g gd) (ht : SimT K E0 tt td) (he : Sim K E0 te ed) :
    Sim K W (tLc wi g tt te vs) (dLc i gd td ed vs) := fun F H σ ρ S q x Q st h p px => by
  refine hi F H σ ρ S _ _ _ st h (fun ds J ρ00 F0 H0 S0 s00 wk st0 n0 h0 => ?_) px
  have s0 : ST K F0 H0 σ (wipeE ρ00 vs) S0 := ⟨s00.ex, slots_wipe0 s00.sl⟩
  generalize wipeE ρ00 vs = ρ0 at s0 h0
  intro D hD
  have nox : ∀ {F H : Hp} {σ : L2.St} {S : FP}, PostX K F H σ S (fun _ _ => False) E0 := fun xd c d ρ' F' H' S' _ _ _ _ z => z
  -- the state at turn k
  refine ⟨fun k m H1 => ∃ ρ1 F1 S1 acc va T, ST K F1 H1 σ ρ1 S1 ∧ Stp F0 H0 S0 F1 H1 ∧ Fresh H0 S0 (Un2 T S1) ∧ T D ∧ F1 D = none ∧ H1 D = some (.lst va) ∧ (∃ U, (∀ a, U a → T a) ∧ ¬ U D ∧ Owns K F1 H1 acc va U) ∧ Dj T S1 ∧ k ≤ ds.length ∧ m = ds.length - k ∧ dLcL gd td ed vs (fun _ _ => False) (ds.drop k) acc ρ1 q, ?_, ?_⟩
  · refine ⟨ds.length, ρ0, F0, Tg H0 S0, [], [], fun a => a = D, ?_, stp_new hD, ?_, rfl, s0.ex.back hD, upd_same, ⟨fun _ => False, fun _ z => z.elim, id, rfl⟩, fun a y z => z.2 (by rw [y]; exact hD), Nat.zero_le _, rfl, h0⟩
    · have st1 : Stp F0 H0 (fun _ => False) F0 (upd H0 D (.lst [])) := stp_new hD
      exact ⟨ex_new1 s0.ex hD, Slots.step st1 (fun _ _ z => z) s0.sl.tight⟩
    · intro a z
      rcases z with z | z
      · exact .inr (by rw [z]; exact hD)
      · exact .inl z.1
  · rintro k m H1 ⟨ρ1, F1, S1, acc, va, T, s1, st1, n1, tD, fD, hHD, ⟨U, hU, nU, ro⟩, dj, hk, rfl, h1⟩
    obtain ⟨go, stop⟩ := wk F1 H1 st1.ex s1.ex
    by_cases hlt : k < ds.length
    · refine .inr ?_
      have e : ds[k]? = some ds[k] := List.getElem?_eq_getElem hlt
      obtain ⟨g1, g2⟩ := go k _ e
      rw [List.drop_eq_getElem_cons hlt] at h1
      refine ⟨g1, fun H' => ∃ ρ1 F1 S1 acc va T, ST K F1 H' σ ρ1 S1 ∧ Stp F0 H0 S0 F1 H' ∧ Fresh H0 S0 (Un2 T S1) ∧ T D ∧ F1 D = none ∧ H' D = some (.lst va) ∧ (∃ U, (∀ a, U a → T a) ∧ ¬ U D ∧ Owns K F1 H' acc va U) ∧ Dj T S1 ∧ dLcL gd td ed vs (fun _ _ => False) (ds.drop (k + 1)) acc ρ1 q, ?_, fun y H' hy => ?_⟩
      · rintro H' ⟨ρ1, F1, S1, acc, va, T, a1, a2, a3, a4, a5, a6, a7, a8, a9⟩
        exact ⟨ds.length - (k + 1), by omega, ρ1, F1, S1, acc, va, T, a1, a2, a3, a4, a5, a6, a7, a8, hlt, rfl, a9⟩
      · obtain ⟨F2, e2, st2, r2⟩ := g2 y H' hy
        -- the environment within the block
        have s2 : ST K F2 H' (wipe σ vs) (wipeE ρ1 vs) S1 := ⟨e2, slots_wipe (Slots.step st2 (fun _ _ z => z) s1.sl)⟩
        -- what is carried: the list so far
        have carry : ∀ {F3 H3 : Hp} {S3 : FP}, Stp F1 H1 S1 F3 H3 → Fresh H1 S1 S3 → (Tg H1 T) D ∧ F3 D = none ∧ H3 D = some (.lst va) ∧ (∃ U', (∀ a, U' a → Tg H1 T a) ∧ ¬ U' D ∧ Owns K F3 H3 acc va U') ∧ Dj (Tg H1 T) S3 := fun {F3 H3 S3} stp n => by
          have nD : ¬ S1 D := dj D tD
          refine ⟨⟨tD, by rw [hHD]; simp⟩, stp.fz D fD (by rw [hHD]; simp) nD, stp.fr D _ hHD nD, ⟨Tg H1 U, fun a z => ⟨hU a z.1, z.2⟩, fun z => nU z.1, ?_⟩, fun a y z => (n a z).elim (dj a y.1) y.2⟩
          exact Owns.step stp (fun a z => dj a (hU a z.1)) ro.tight
        have st2' : Stp F1 H1 S1 F2 H' := st2.mono fun _ z => z.elim
        refine hg ((List.range σ.length).filter fun i => decide (i ∉ vs)) (fun i hi z => of_decide_eq_true (List.mem_filter.mp z).2 hi) F2 H' (wipe σ vs) (wipeE ρ1 vs) S1 (.fr ds[k]) y (fun _ => False) _ _ s2 r2 (fun _ z => z.elim) h1 fun σ3 ρ3 F3 H3 S3 s3 st3 n3 k3 l3 h3 => ?_
        have st3' : Stp F2 H' S1 F3 H3 := st3.mono fun _ z => z.elim (fun y => y.elim) id
        have n3' : Fresh H' S1 S3 := n3.mono fun _ z => z.elim (fun y => y.elim) id
        have st13 := st2'.trans Fresh.refl st3'
        have n13 : Fresh H1 S1 S3 := Fresh.trans (S1 := S1) st2' Fresh.refl n3'
        have l3' : σ3.length = σ.length := by rw [l3, wipe_length]
        have ew : wipe σ3 vs = wipe σ vs := by
          refine (wipe_ext (σ := wipe σ vs) l3 fun i hi => ?_).trans wipe_wipe
          by_cases hl : i < σ.length
          · exact k3 i (List.mem_filter.mpr ⟨List.mem_range.mpr hl, decide_eq_true hi⟩)
          · rw [List.getElem?_eq_none_iff.mpr (by omega), List.getElem?_eq_none_iff.mpr (by rw [wipe_length]; omega)]
        refine ⟨ew, ?_⟩
        refine ht F3 H3 σ3 ρ3 S3 _ _ _ s3 h3 (fun b ρ4 F4 H4 S4 s4 st4 n4 h4 => ?_) nox
        have st14 := st13.trans n13 st4
        have n14 : Fresh H1 S1 S4 := Fresh.trans st13 n13 n4
        cases b with
        | false =>
          obtain ⟨c1, c2, c3, c4, c5⟩ := carry st14 n14
          refine ⟨_, F4, S4, acc, va, Tg H1 T, ⟨s4.ex, slots_unwipe s4.sl l3' ew⟩, st1.trans (n1.sub fun _ z => .inr z) st14, ?_, c1, c2, c3, c4, c5, h4⟩
          intro a z
          rcases z with z | z
          · exact n1 a (.inl z.1)
          · exact Fresh.trans st1 (n1.sub fun _ z => .inr z) n14 a z
        | true =>
          refine he F4 H4 σ3 ρ4 S4 _ _ _ s4 h4 (fun o v ρ5 F5 H5 T5 S5 s5 r5 d5 st5 n5 h5 => ?_) nox
          have st15 := st14.trans n14 st5
          have n15 : Fresh H1 S1 (Un2 T5 S5) := Fresh.trans st14 n14 n5
          obtain ⟨c1, c2, c3, ⟨U', u1, u2, u3⟩, c5⟩ := carry st15 n15
          have dD : ¬ T5 D := fun z => c5 D c1 (.inl z)
          refine ⟨va, c3, by rw [owns_len u3]; exact h5.1, ?_⟩
          have sl5 : Slots K F5 H5 (wipeE ρ5 vs) σ S5 := slots_unwipe s5.sl l3' ew
          have stD : Stp F5 H5 (fun a => a = D) F5 (upd H5 D (.lst (va ++ [v]))) := stp_set c2
          have nS : ∀ a, S5 a → ¬ a = D := fun a z e => c5 D c1 (.inr (e ▸ z))
          refine ⟨_, F5, S5, acc ++ [o], va ++ [v], Un2 (Tg H1 T) T5, ⟨ex_set s5.ex c2, Slots.step stD nS sl5⟩, ?_, ?_, .inl c1, c2, upd_same, ⟨Un2 U' T5, fun a z => z.imp (u1 a) id, fun z => z.elim u2 dD, ?_⟩, fun a z w => z.elim (fun y => c5 a y (.inr w)) (fun y => d5 a y w), h5.2⟩
          · have st05 := st1.trans (n1.sub fun _ z => .inr z) st15
            have n05 : Fresh H0 S0 (Un2 (Tg H1 T) (Un2 T5 S5)) := fun a z => z.elim (fun w => n1 a (.inl w.1)) (Fresh.trans st1 (n1.sub fun _ z => .inr z) n15 a)
            exact st05.trans n05 (stD.mono fun a z => .inl (z ▸ c1))
          · intro a z
            rcases z with (z | z) | z
            · exact n1 a (.inl z.1)
            · exact Fresh.trans st1 (n1.sub fun _ z => .inr z) n15 a (.inl z)
            · exact Fresh.trans st1 (n1.sub fun _ z => .inr z) n15 a (.inr z)
          · have q1 := Owns.step stD (fun a z e => u2 (e ▸ z)) u3
            have q2 := Own.step stD (fun a z e => dD (e ▸ z)) r5
            exact owns_snoc q1 q2 fun a y z => c5 a (u1 a y) (.inl z)
    · have hk' : k = ds.length := by omega
      subst hk'
      refine .inl ⟨stop, ?_⟩
      rw [List.drop_length] at h1
      exact p (.ol acc) (.ref D) ρ1 F1 H1 T S1 s1 ⟨D, va, U, rfl, tD, fD, hHD, hU, nU, ro⟩ dj (st0.trans n0 st1) (Fresh.trans st0 n0 n1) h1
end
end DL
set_option Elab.async false
set_option linter.all false
set_option maxRecDepth 100000
set_option maxHeartbeats 4000000
namespace DL
open PySem PySem.Spec PyProof.Rows L2
/-! ### calls of defs: arguments by value, or a slot by reference -/
inductive AR where
  | vl (o : O)
  | sl (i : Nat)
/-- a def's promise, as data -/
abbrev WF := List O → (O → List O → Prop) → (XD → List O → Prop) → Prop
section
variable {K : PySem.W.Frag} {F H F1 H1 F2 H2 F' H' : Hp} {S S1 S2 T U : FP} {σ σ' : L2.St} {ρ ρ' : Env} {W : XK} {kp : List Nat}
def Args (K : PySem.W.Frag) (F H : Hp) (σ : L2.St) : List AR → List V → FP → Prop
  | [], vs, _ => vs = []
  | .vl o :: r, vs, T => ∃ v vs' T1 T2, vs = v :: vs' ∧ (∀ a, T1 a → T a) ∧ (∀ a, T2 a → T a) ∧ (∀ a, T1 a → ¬ T2 a) ∧ Own K F H o v T1 ∧ Args K F H σ r vs' T2
  | .sl i :: r, vs, T => ∃ v vs', vs = v :: vs' ∧ σ[i]? = some (some v) ∧ Args K F H σ r vs' T
theorem Args.step (st : Stp F H S F' H') : ∀ {as : List AR} {vs : List V} {T : FP}, (∀ a, T a → ¬ S a) → Args K F H σ as vs T → Args K F' H' σ as vs T
  | [], _, _, _, q => q
  | .vl o :: r, vs, T, h, ⟨v, vs', T1, T2, e, a, b, c, d, f⟩ => ⟨v, vs', T1, T2, e, a, b, c, Own.step st (fun x y => h x (a x y)) d, Args.step st (fun x y => h x (b x y)) f⟩
  | .sl i :: r, vs, T, h, ⟨v, vs', e, hv, f⟩ => ⟨v, vs', e, hv, Args.step st h f⟩
theorem Args.tight : ∀ {as : List AR} {vs : List V} {T : FP}, Args K F H σ as vs T → Args K F H σ as vs (Tg H T)
  | [], _, _, q => q
  | .vl o :: r, vs, T, ⟨v, vs', T1, T2, e, a, b, c, d, f⟩ => ⟨v, vs', Tg H T1, Tg H T2, e, fun x y => ⟨a x y.1, y.2⟩, fun x y => ⟨b x y.1, y.2⟩, fun x y z => c x y.1 z.1, d.tight, Args.tight f⟩
  | .sl i :: r, vs, T, ⟨v, vs', e, hv, f⟩ => ⟨v, vs', e, hv, Args.tight f⟩
abbrev RT := Env → (List AR → Env → Prop) → XP → Prop
def PostR (K : PySem.W.Frag) (F H : Hp) (σ : L2.St) (S : FP) (q : List AR → Env → Prop) (Q : List V → Hp → Prop) : Prop :=
  ∀ as vs ρ' F' H' T S', ST K F' H' σ ρ' S' → Args K F' H' σ as vs T → Dj T S' → Stp F H S F' H' → Fresh H S (Un2 T S') → q as ρ' → Q vs H'
def SimR (K : PySem.W.Frag) (W : XK) (ta : TA) (t : RT) : Prop :=
  ∀ F H σ ρ S q x Q, ST K F H σ ρ S → t ρ q x → PostR K F H σ S q Q → PostX K F H σ S x W → ta σ H Q
@[simp] def dNilR : RT := fun ρ q _ => q [] ρ
@[simp] def dConsR (a : ET) (b : RT) : RT := fun ρ q x => a ρ (fun o ρ1 => b ρ1 (fun os ρ2 => q (.vl o :: os) ρ2) x) x
/-- the slot i, by reference -/
@[simp] def dRefR (i : Nat) (b : RT) : RT := fun ρ q x => match ρ[i]? with
  | some (some _) => b ρ (fun os ρ2 => q (.sl i :: os) ρ2) x
  | _ => False
theorem sim_nilR : SimR K W tNil dNilR := fun F H σ ρ S q x Q st h p _ =>
  p [] [] ρ F H (fun _ => False) S st rfl (fun _ z => z.elim) Stp.refl (fun a z => z.elim (fun y => y.elim) .inl) h
theorem sim_consR {ta : TE} {tr : TA} {a : ET} {b : RT} (ha : Sim K W ta a) (hb : SimR K W tr b) : SimR K W (tCons ta tr) (dConsR a b) := fun F H σ ρ S q x Q st h p px => by
  refine ha F H σ ρ S _ x _ st h (fun o1 v1 ρ1 F1 H1 T1 S1 s1 r1 d1 st1 n1 h1 => ?_) px
  refine hb F1 H1 σ ρ1 S1 _ x _ s1 h1 (fun os vs ρ2 F2 H2 T2 S2 s2 r2 d2 st2 n2 h2 => ?_) (px.after st1 (n1.sub fun _ z => .inr z))
  obtain ⟨q1, q2⟩ := hold r1 d1 st2 n2
  refine p (.vl o1 :: os) (v1 :: vs) ρ2 F2 H2 (Un2 (Tg H1 T1) T2) S2 s2 ⟨v1, vs, _, _, rfl, fun _ z => .inl z, fun _ z => .inr z, fun a y z => q2 a y (.inl z), q1, r2⟩
    (fun a z => z.elim (fun y w => q2 a y (.inr w)) (d2 a)) (st1.trans (n1.sub fun _ z => .inr z) st2) ?_ h2
  intro a z
  rcases z with (z | z) | z
  · exact n1 a (.inl z.1)
  · exact Fresh.trans st1 (n1.sub fun _ z => .inr z) n2 a (.inl z)
  · exact Fresh.trans st1 (n1.sub fun _ z => .inr z) n2 a (.inr z)
theorem sim_refR {i : Nat} {tr : TA} {b : RT} (hb : SimR K W tr b) : SimR K W (tCons (tVar i) tr) (dRefR i b) := fun F H σ ρ S q x Q st h p px => by
  unfold dRefR at h
  split at h
  · rename_i o e
    obtain ⟨v, _, _, hv, _⟩ := st.sl.take e
    refine ⟨v, hv, ?_⟩
    exact hb F H σ ρ S _ x _ st h (fun os vs ρ2 F2 H2 T2 S2 s2 r2 d2 st2 n2 h2 => p (.sl i :: os) (v :: vs) ρ2 F2 H2 T2 S2 s2 ⟨v, vs, rfl, hv, r2⟩ d2 st2 n2 h2) px
  · exact h.elim
@[simp] def res : List AR → Env → Option (List O × Env)
  | [], ρ => some ([], ρ)
  | .vl o :: r, ρ => (res r ρ).map fun z => (o :: z.1, z.2)
  | .sl i :: r, ρ => match ρ[i]? with
    | some (some o) => (res r (ρ.set i none)).map fun z => (o :: z.1, z.2)
    | _ => none
def bk : List AR → List O → Env → Env
  | .sl i :: r, o :: os, ρ => bk r os (ρ.set i (some o))
  | .vl _ :: r, _ :: os, ρ => bk r os ρ
  | _, _, ρ => ρ
theorem res_ok : ∀ {as : List AR} {vs : List V} {T S : FP} {ρ ρ' : Env} {os : List O}, Args K F H σ as vs T → Slots K F H ρ σ S → Dj T S → res as ρ = some (os, ρ') →
    ∃ U S', Owns K F H os vs U ∧ Slots K F H ρ' σ S' ∧ Dj U S' ∧ (∀ a, U a → T a ∨ S a) ∧ (∀ a, S' a → S a)
  | [], vs, T, S, ρ, ρ', os, h, sl, d, e => by
    have h : vs = [] := h
    cases (show some ([], ρ) = some (os, ρ') from e)
    exact ⟨fun _ => False, S, h, sl, fun _ z => z.elim, fun _ z => z.elim, fun _ z => z⟩
  | .vl o :: r, vs, T, S, ρ, ρ', os, ⟨v, vs', T1, T2, ev, a, b, c, d1, f⟩, sl, d, e => by
    have e : (res r ρ).map (fun z => (o :: z.1, z.2)) = some (os, ρ') := e
    cases e1 : res r ρ with
    | none => rw [e1] at e; cases e
    | some z =>
      rw [e1] at e
      obtain ⟨os1, ρ1⟩ := z
      cases e
      obtain ⟨U, S', q1, q2, q3, q4, q5⟩ := res_ok f sl (fun x y => d x (b x y)) e1
      refine ⟨Un2 T1 U, S', ⟨v, vs', T1, U, ev, fun _ z => .inl z, fun _ z => .inr z, fun x y z => (q4 x z).elim (c x y) (d x (a x y)), d1, q1⟩, q2, fun x y z => y.elim (fun w => d x (a x w) (q5 x z)) (fun w => q3 x w z), fun x y => y.elim (fun w => .inl (a x w)) (fun w => (q4 x w).imp (b x) id), q5⟩
  | .sl i :: r, vs, T, S, ρ, ρ', os, ⟨v, vs', ev, hv, f⟩, sl, d, e => by
    unfold res at e
    split at e
    · rename_i o eo
      obtain ⟨v', S1, S2, hv', a, b, c, ro, sl2⟩ := sl.take eo
      rw [hv] at hv'
      cases hv'
      cases e1 : res r (ρ.set i none) with
      | none => rw [e1] at e; cases e
      | some z =>
        rw [e1] at e
        obtain ⟨os1, ρ1⟩ := z
        cases e
        obtain ⟨U, S', q1, q2, q3, q4, q5⟩ := res_ok f sl2 (fun x y z => d x y (b x z)) e1
        refine ⟨Un2 S1 U, S', ⟨v, vs', S1, U, ev, fun _ z => .inl z, fun _ z => .inr z, fun x y z => (q4 x z).elim (fun w => d x w (a x y)) (c x y), ro, q1⟩, q2, fun x y z => y.elim (fun w => c x w (q5 x z)) (fun w => q3 x w z), fun x y => y.elim (fun w => .inr (a x w)) (fun w => (q4 x w).imp id (b x)), fun x y => b x (q5 x y)⟩
    · cases e
theorem bk_ok : ∀ {as : List AR} {vs ws : List V} {T S U : FP} {ρ : Env} {os : List O}, Args K F H σ as vs T → Slots K F' H' ρ σ S → Owns K F' H' os (vs ++ ws) U → Dj U S → ∃ S', Slots K F' H' (bk as os ρ) σ S' ∧ (∀ a, S' a → U a ∨ S a)
  | [], vs, ws, T, S, U, ρ, os, h, sl, r, d => ⟨S, by unfold bk; exact sl, fun _ z => .inr z⟩
  | .vl o :: r, vs, ws, T, S, U, ρ, [], ⟨v, vs', T1, T2, ev, _, _, _, _, f⟩, sl, h, d => by
    have h : vs ++ ws = [] := h
    rw [ev] at h
    cases h
  | .sl i :: r, vs, ws, T, S, U, ρ, [], ⟨v, vs', ev, hv, f⟩, sl, h, d => by
    have h : vs ++ ws = [] := h
    rw [ev] at h
    cases h
  | .vl o :: r, vs, ws, T, S, U, ρ, o' :: os, ⟨v, vs', T1, T2, ev, _, _, _, _, f⟩, sl, ⟨w, ws', U1, U2, ew, a, b, c, r1, r2⟩, d => by
    rw [ev] at ew
    have ew : v :: (vs' ++ ws) = w :: ws' := ew
    injection ew with e1 e2
    rw [← e2] at r2
    obtain ⟨S', q1, q2⟩ := bk_ok f sl r2 (fun x y => d x (b x y))
    exact ⟨S', q1, fun x y => (q2 x y).imp (b x) id⟩
  | .sl i :: r, vs, ws, T, S, U, ρ, o' :: os, ⟨v, vs', ev, hv, f⟩, sl, ⟨w, ws', U1, U2, ew, a, b, c, r1, r2⟩, d => by
    rw [ev] at ew
    have ew : v :: (vs' ++ ws) = w :: ws' := ew
    injection ew with e1 e2
    rw [← e2] at r2
    rw [← e1] at r1
    have sl' := sl.putK hv r1 fun x y => d x (a x y)
    obtain ⟨S', q1, q2⟩ := bk_ok f sl' r2 (fun x y z => z.elim (fun w => c x w y) (d x (b x y)))
    exact ⟨S', q1, fun x y => (q2 x y).elim (fun w => .inl (b x w)) (fun w => w.imp (a x) id)⟩
/-! ### a def's promise -/
def FPost (K : PySem.W.Frag) (F H : Hp) (S : FP) (vs : List V) (q : O → List O → Prop) (Q : VK) : Prop :=
  ∀ r os' v F' H' T S', Ex F' H' → Own K F' H' r v T → Owns K F' H' os' vs S' → Dj T S' → Stp F H S F' H' → Fresh H S (Un2 T S') → q r os' → Q v H'
def FPostX (K : PySem.W.Frag) (F H : Hp) (S : FP) (vs : List V) (x : XD → List O → Prop) (E : XK) : Prop :=
  ∀ xd cls d os' F' H' S', Ex F' H' → Owns K F' H' os' vs S' → Stp F H S F' H' → Fresh H S S' → XR H' xd cls d → x xd os' → E cls d H'
def spO (K : PySem.W.Frag) (n : Nat) (w : WF) : Sp := fun vs H Q E => ∃ F os S q x, Ex F H ∧ Owns K F H os vs S ∧ os.length = n ∧ w os q x ∧ FPost K F H S vs q Q ∧ FPostX K F H S vs x E
theorem spO_len {n : Nat} {w : WF} {vs : List V} {Q : VK} {E : XK} {ps : List Str} (hp : ps.length = n) (h : spO K n w vs H Q E) : vs.length = ps.length := by
  obtain ⟨F, os, S, q, x, _, r, hl, _⟩ := h
  rw [owns_len r, hl, hp]
@[simp] def dCall (n : Nat) (w : WF) (ds : List O) (t : RT) : ET := fun ρ q x => t ρ (fun as ρ1 => match res as ρ1 with
  | some (os, ρ2) => (os ++ ds).length = n ∧ w (os ++ ds) (fun r os' => q r (bk as os' ρ2)) (fun xd os' => x xd (bk as os' ρ2))
  | none => False) x
theorem owns_app : ∀ {os ps : List O} {vs ws : List V} {T1 T2 : FP}, Owns K F H os vs T1 → Owns K F H ps ws T2 → Dj T1 T2 → Owns K F H (os ++ ps) (vs ++ ws) (Un2 T1 T2)
  | [], ps, vs, ws, T1, T2, h, r, d => by
    have h : vs = [] := h
    subst h
    exact Owns.mono (fun _ z => .inr z) r
  | o :: os, ps, vs, ws, T1, T2, ⟨v, vs', A, B, e, a, b, c, r1, r2⟩, r, d => by
    subst e
    exact ⟨v, vs' ++ ws, A, Un2 B T2, rfl, fun x y => .inl (a x y), fun x y => y.imp (b x) id, fun x y z => z.elim (c x y) (d x (a x y)), r1, owns_app r2 r fun x y => d x (b x y)⟩
theorem sim_call {n : Nat} {w : WF} {ds : List O} {dvs : List V} {ta : TA} {t : RT} (hd : ∀ F H, Owns K F H ds dvs (fun _ => False)) (ha : SimR K W ta t) : Sim K W (tCall (spO K n w) dvs W ta) (dCall n w ds t) := fun F H σ ρ S q x Q st h p px => by
  refine ha F H σ ρ S _ x _ st h (fun as vs ρ1 F1 H1 T1 S1 s1 r1 d1 st1 n1 h1 => ?_) px
  split at h1
  · rename_i os ρ2 e
    obtain ⟨hl, h1⟩ := h1
    obtain ⟨U, S', ro, sl, dU, hU, hS⟩ := res_ok r1 s1.sl d1 e
    have rall : Owns K F1 H1 (os ++ ds) (vs ++ dvs) U := (owns_app ro (hd F1 H1) fun _ _ z => z).mono fun _ z => z.elim id fun y => y.elim
    have sub1 : ∀ a, Un2 U S' a → Un2 T1 S1 a := fun a z => z.elim (hU a) fun y => .inr (hS a y)
    have nU : Fresh H S (Un2 U S') := n1.sub sub1
    have px1 := px.after st1 nU
    refine ⟨F1, os ++ ds, U, _, _, s1.ex, rall, hl, h1, ?_, ?_⟩
    · intro r os' v F' H' T' S'' e' rr ro' d' st' n' hq
      obtain ⟨sl', dsl⟩ := holdS sl dU.sym st' n'
      have ro'' : Owns K F' H' os' (vs ++ dvs) S'' := ro'
      obtain ⟨S3, q1, q2⟩ := bk_ok r1 sl' ro'' (fun a y z => dsl a z (.inr y))
      refine p r v _ F' H' T' S3 ⟨e', q1⟩ rr (fun a y z => (q2 a z).elim (d' a y) (fun w => dsl a w (.inl y))) (st1.trans nU (st'.mono fun _ z => .inl z)) ?_ hq
      intro a z
      have n2 : Fresh H1 (Un2 U S') (Un2 T' S'') := n'.mono fun _ z => .inl z
      rcases z with z | z
      · exact Fresh.trans st1 nU n2 a (.inl z)
      · rcases q2 a z with y | y
        · exact Fresh.trans st1 nU n2 a (.inr y)
        · exact nU a (.inr y.1)
    · intro xd c d os' F' H' S'' e' ro' st' n' hx hq
      obtain ⟨sl', dsl⟩ := holdS sl dU.sym st' n'
      obtain ⟨S3, q1, q2⟩ := bk_ok r1 sl' ro' (fun a y z => dsl a z y)
      refine px xd c d _ F' H' S3 ⟨e', q1⟩ (st1.trans nU (st'.mono fun _ z => .inl z)) ?_ hx hq
      intro a z
      have n2 : Fresh H1 (Un2 U S') S'' := n'.mono fun _ z => .inl z
      rcases q2 a z with y | y
      · exact Fresh.trans st1 nU n2 a y
      · exact nU a (.inr y.1)
  · exact h1.elim
/-! ### a def's body -/
@[simp] def lives (io : List Nat) (ρ : Env) : Bool := io.all fun i => match ρ[i]? with
  | some (some _) => true
  | _ => false
@[simp] def outs (io : List Nat) (ρ : Env) : Nat → List O → List O
  | _, [] => []
  | i, o :: os => (if i ∈ io then match ρ[i]? with
    | some (some o') => o'
    | _ => o
    else o) :: outs io ρ (i + 1) os
@[simp] def fin (io : List Nat) (os : List O) (ρ : Env) (k : List O → Prop) : Prop := lives io ρ = true ∧ k (outs io ρ 0 os)
@[simp] def isFr : O → Bool
  | .fr _ => true
  | _ => false
@[simp] def frs_ (io : List Nat) : Nat → List O → Bool
  | _, [] => true
  | i, o :: os => (decide (i ∈ io) || isFr o) && frs_ io (i + 1) os
theorem slots_start : ∀ {os : List O} {vs : List V} {T : FP} (n : Nat), Owns K F H os vs T → Slots K F H (os.map some ++ List.replicate n none) (vs.map some ++ List.replicate n none) T
  | [], vs, T, n, h => by
    have h : vs = [] := h
    subst h
    have : ∀ n, Slots K F H (List.replicate n none) (List.replicate n none) T := by
      intro n
      induction n with
      | zero => exact rfl
      | succ n ih => exact ⟨none, List.replicate n none, rfl, ih⟩
    exact this n
  | o :: os, vs, T, n, ⟨v, vs', A, B, e, a, b, c, r1, r2⟩ => by
    subst e
    exact ⟨v, vs'.map some ++ List.replicate n none, A, B, rfl, a, b, c, r1, slots_start n r2⟩
/-- what the parameters hold at the end -/
theorem outs_ok {io : List Nat} {ρ : Env} : ∀ {os : List O} {vs : List V} {i : Nat} {T S : FP} {σ' : L2.St}, frs_ io i os = true → Owns K F H os vs T → Ex F F' → Slots K F' H' ρ σ' S → (∀ j, j ∈ io → ∃ o, ρ[j]? = some (some o)) → (∀ j, j ∈ io → i ≤ j → j < i + os.length → σ'[j]? = (vs.map some)[j - i]?) →
    ∃ U, Owns K F' H' (outs io ρ i os) vs U ∧ (∀ a, U a → S a)
  | [], vs, i, T, S, σ', hf, h, e, sl, hl, hk => ⟨fun _ => False, h, fun _ z => z.elim⟩
  | o :: os, vs, i, T, S, σ', hf, ⟨v, vs', A, B, ev, a, b, c, r1, r2⟩, e, sl, hl, hk => by
    subst ev
    unfold frs_ at hf
    rw [Bool.and_eq_true, Bool.or_eq_true] at hf
    by_cases hi : i ∈ io
    · obtain ⟨o', ho'⟩ := hl i hi
      obtain ⟨w, S1, S2, hw, s1, s2, s3, ro, sl2⟩ := sl.take ho'
      have hv := hk i hi (Nat.le_refl _) (by simp)
      rw [hw, Nat.sub_self] at hv
      have hv : some (some w) = some (some v) := hv
      cases hv
      -- the rest, the slot i forgotten: its list of outs does not ask for it
      have rest : ∀ (os : List O) (j : Nat), i < j → outs io (ρ.set i none) j os = outs io ρ j os := by
        intro os
        induction os with
        | nil => intros; rfl
        | cons o os ih =>
          intro j hj
          unfold outs
          rw [List.getElem?_set_ne (Nat.ne_of_lt hj), ih (j + 1) (Nat.lt_succ_of_lt hj)]
      -- only places from i + 1 on are looked at
      have key : ∃ U, Owns K F' H' (outs io ρ (i + 1) os) vs' U ∧ ∀ a, U a → S2 a := by
        have gen : ∀ (os : List O) (vs : List V) (j : Nat) (T S2 : FP) (ρ1 : Env), frs_ io j os = true → Owns K F H os vs T → Slots K F' H' ρ1 σ' S2 → (∀ k, k ∈ io → j ≤ k → ∃ o, ρ1[k]? = some (some o)) → (∀ k, k ∈ io → j ≤ k → k < j + os.length → σ'[k]? = (vs.map some)[k - j]?) →
            ∃ U, Owns K F' H' (outs io ρ1 j os) vs U ∧ ∀ a, U a → S2 a := by
          intro os
          induction os with
          | nil => intro vs j T S2 ρ1 _ h _ _ _; exact ⟨fun _ => False, h, fun _ z => z.elim⟩
          | cons o os ih =>
            rintro vs j T S2 ρ1 hf ⟨v, vs', A, B, ev, a, b, c, r1, r2⟩ sl hl hk
            subst ev
            unfold frs_ at hf
            rw [Bool.and_eq_true, Bool.or_eq_true] at hf
            have hk' : ∀ k, k ∈ io → j + 1 ≤ k → k < j + 1 + os.length → σ'[k]? = (vs'.map some)[k - (j + 1)]? := fun k h1 h2 h3 => by
              have := hk k h1 (by omega) (by simp; omega)
              rw [this]
              obtain ⟨d, rfl⟩ : ∃ d, k = j + 1 + d := ⟨k - (j + 1), by omega⟩
              rw [show j + 1 + d - j = d + 1 by omega, show j + 1 + d - (j + 1) = d by omega]
              rfl
            have restj : ∀ (os : List O) (m : Nat), j < m → outs io (ρ1.set j none) m os = outs io ρ1 m os := by
              intro os
              induction os with
              | nil => intros; rfl
              | cons o os ih =>
                intro m hm
                unfold outs
                rw [List.getElem?_set_ne (Nat.ne_of_lt hm), ih (m + 1) (Nat.lt_succ_of_lt hm)]
            by_cases hj : j ∈ io
            · obtain ⟨o', ho'⟩ := hl j hj (Nat.le_refl _)
              obtain ⟨w, S1, S3, hw, s1, s2, s3, ro, sl2⟩ := sl.take ho'
              have hv := hk j hj (Nat.le_refl _) (by simp)
              rw [hw, Nat.sub_self] at hv
              have hv : some (some w) = some (some v) := hv
              cases hv
              obtain ⟨U, u1, u2⟩ := ih vs' (j + 1) B S3 (ρ1.set j none) hf.2 r2 sl2 (fun k h1 h2 => by
                obtain ⟨o, ho⟩ := hl k h1 (by omega)
                exact ⟨o, by rw [List.getElem?_set_ne (by omega)]; exact ho⟩) hk'
              rw [restj os (j + 1) (Nat.lt_succ_self _)] at u1
              refine ⟨Un2 S1 U, ?_, fun x y => y.elim (s1 x) fun z => s2 x (u2 x z)⟩
              unfold outs
              rw [if_pos hj, ho']
              exact ⟨_, vs', S1, U, rfl, fun _ z => .inl z, fun _ z => .inr z, fun x y z => s3 x y (u2 x z), ro, u1⟩
            · obtain ⟨U, u1, u2⟩ := ih vs' (j + 1) B S2 ρ1 hf.2 r2 sl (fun k h1 h2 => hl k h1 (by omega)) hk'
              refine ⟨U, ?_, u2⟩
              unfold outs
              rw [if_neg hj]
              have hfr : isFr o = true := hf.1.resolve_left fun z => hj (of_decide_eq_true z)
              cases o with
              | fr d => exact ⟨v, vs', fun _ => False, U, rfl, fun _ z => z.elim, fun _ z => z, fun _ z => z.elim, dp_ex e r1, u1⟩
              | ol _ => cases hfr
              | ot _ => cases hfr
              | od _ _ => cases hfr
              | oi _ _ _ => cases hfr
              | ox _ _ => cases hfr
        obtain ⟨U, u1, u2⟩ := gen os vs' (i + 1) B S2 (ρ.set i none) hf.2 r2 sl2 (fun k h1 h2 => by
          obtain ⟨o, ho⟩ := hl k h1
          exact ⟨o, by rw [List.getElem?_set_ne (by omega)]; exact ho⟩) (fun k h1 h2 h3 => by
          have := hk k h1 (by omega) (by simp; omega)
          rw [this]
          obtain ⟨d, rfl⟩ : ∃ d, k = i + 1 + d := ⟨k - (i + 1), by omega⟩
          rw [show i + 1 + d - i = d + 1 by omega, show i + 1 + d - (i + 1) = d by omega]
          rfl)
        rw [rest os (i + 1) (Nat.lt_succ_self _)] at u1
        exact ⟨U, u1, u2⟩
      obtain ⟨U, u1, u2⟩ := key
      refine ⟨Un2 S1 U, ?_, fun x y => y.elim (s1 x) fun z => s2 x (u2 x z)⟩
      unfold outs
      rw [if_pos hi, ho']
      exact ⟨_, vs', S1, U, rfl, fun _ z => .inl z, fun _ z => .inr z, fun x y z => s3 x y (u2 x z), ro, u1⟩
    · obtain ⟨U, u1, u2⟩ := outs_ok (i := i + 1) hf.2 r2 e sl hl (fun k h1 h2 h3 => by
        have := hk k h1 (by omega) (by simp; omega)
        rw [this]
        obtain ⟨d, rfl⟩ : ∃ d, k = i + 1 + d := ⟨k - (i + 1), by omega⟩
        rw [show i + 1 + d - i = d + 1 by omega, show i + 1 + d - (i + 1) = d by omega]
        rfl)
      refine ⟨U, ?_, u2⟩
      unfold outs
      rw [if_neg hi]
      have hfr : isFr o = true := hf.1.resolve_left fun z => hi (of_decide_eq_true z)
      cases o with
      | fr d => exact ⟨v, vs', fun _ => False, U, rfl, fun _ z => z.elim, fun _ z => z, fun _ z => z.elim, dp_ex e r1, u1⟩
      | ol _ => cases hfr
      | ot _ => cases hfr
      | od _ _ => cases hfr
      | oi _ _ _ => cases hfr
      | ox _ _ => cases hfr
theorem lives_ok {io : List Nat} {ρ : Env} (h : lives io ρ = true) : ∀ j, j ∈ io → ∃ o, ρ[j]? = some (some o) := fun j hj => by
  have := List.all_eq_true.mp h j hj
  split at this
  · rename_i o e
    exact ⟨o, e⟩
  · cases this
/-- THE BODY: from its reading as data to its promise -/
theorem body_of {N : List Str} {ts : TS} {t : DT} {io : List Nat} {n : Nat} {w : WF} {vs : List V} {Q : VK} {E : XK} (hs : SimS K E io ts t) (hsp : spO K n w vs H Q E) (hN : n ≤ N.length)
    (hb : ∀ os q x, os.length = n → w os q x → frs_ io 0 os = true ∧ t { nx := fun ρ => fin io os ρ (q (.fr .none)), rt := fun o ρ => fin io os ρ (q o), xc := fun xd ρ => fin io os ρ (x xd) } (os.map some ++ List.replicate (N.length - n) none)) :
    ts { nx := fun _ H' => Q .non H', rt := Q } (L2.start N vs) H := by
  obtain ⟨F, os, S, q, x, e, ro, hl, hw, fp, fx⟩ := hsp
  obtain ⟨hf, ht⟩ := hb os q x hl hw
  have hlen := owns_len ro
  have hst : L2.start N vs = vs.map some ++ List.replicate (N.length - n) none := by unfold L2.start; rw [hlen, hl]
  rw [hst]
  have par : ∀ {σ' : L2.St} {ρ' : Env} {F' H' : Hp} {S' : FP}, ST K F' H' σ' ρ' S' → Stp F H S F' H' → Keep io (vs.map some ++ List.replicate (N.length - n) none) σ' → lives io ρ' = true → ∃ U, Owns K F' H' (outs io ρ' 0 os) vs U ∧ ∀ a, U a → S' a := fun {σ' ρ' F' H' S'} s st k lv => by
    refine outs_ok (i := 0) hf ro st.ex s.sl (lives_ok lv) fun j hj _ h3 => ?_
    rw [k j hj, List.getElem?_append_left (by simp; omega), Nat.sub_zero]
  refine hs F H _ _ S _ _ ⟨e, slots_start _ ro⟩ ht ⟨fun σ' ρ' F' H' S' s st n' k hq => ?_, fun _ _ _ _ _ _ _ _ _ z => z.elim, fun _ _ _ _ _ _ _ _ _ z => z.elim, fun o v σ' ρ' F' H' T S' s r d st n' k hq => ?_, fun xd c d σ' ρ' F' H' S' s st n' k hx hq => ?_⟩
  · obtain ⟨U, u1, u2⟩ := par s st k hq.1
    exact fp (.fr .none) _ .non F' H' (fun _ => False) U s.ex (scal_non F') u1 (fun _ z => z.elim) st (n'.sub fun a z => z.elim (fun y => y.elim) (u2 a)) hq.2
  · obtain ⟨U, u1, u2⟩ := par s st k hq.1
    exact fp o _ v F' H' T U s.ex r u1 (fun a y z => d a y (u2 a z)) st (n'.sub fun a z => z.imp id (u2 a)) hq.2
  · obtain ⟨U, u1, u2⟩ := par s st k hq.1
    exact fx xd c d _ F' H' U s.ex u1 st (n'.sub fun a z => u2 a z) hx hq.2
end
end DL
set_option Elab.async false
set_option linter.all false
set_option maxRecDepth 100000
set_option maxHeartbeats 4000000
namespace DL
open PySem PySem.Spec PyProof.Rows L2
section
variable {K : PySem.W.Frag} {F H F1 H1 F2 H2 F' H' : Hp} {S S1 S2 T U : FP} {σ σ' : L2.St} {ρ ρ' : Env} {W : XK} {kp : List Nat}
theorem owns_two {o1 o2 : O} {x y : V} (h : Owns K F H [o1, o2] [x, y] S) : ∃ S1 S2, Own K F H o1 x S1 ∧ Own K F H o2 y S2 ∧ Dj S1 S2 ∧ (∀ a, S1 a → S a) ∧ ∀ a, S2 a → S a := by
  obtain ⟨v, vs', S1, S2, e, a, b, c, r1, v', vs'', S3, S4, e', a', b', c', r2, _⟩ := h
  cases e
  cases e'
  exact ⟨S1, S3, r1, r2, fun x y z => c x y (a' x z), a, fun x y => b x (a' x y)⟩
theorem owns_one {o1 : O} {x : V} (h : Owns K F H [o1] [x] S) : Own K F H o1 x S := by
  obtain ⟨v, vs', S1, S2, e, a, b, c, r1, _⟩ := h
  cases e
  exact r1.mono a
theorem owns_inv1 {o : O} {vs : List V} (h : Owns K F H [o] vs S) : ∃ x, vs = [x] ∧ Own K F H o x S := by
  obtain ⟨v, vs', S1, S2, e, a, b, c, r1, r2⟩ := h
  have r2 : vs' = [] := r2
  subst r2
  exact ⟨v, e, r1.mono a⟩
theorem owns_inv2 {o1 o2 : O} {vs : List V} (h : Owns K F H [o1, o2] vs S) : ∃ x y, vs = [x, y] ∧ Owns K F H [o1, o2] [x, y] S := by
  obtain ⟨v, vs', S1, S2, e, a, b, c, r1, v', vs'', S3, S4, e', a', b', c', r2, r3⟩ := id h
  have r3 : vs'' = [] := r3
  subst r3 e' e
  exact ⟨v, v', rfl, h⟩
theorem own_str {z : Str} {v : V} (h : Own K F H (.fr (.str z)) v T) : v = .str z := by
  cases (show Dp K F v (.str z) from h)
  rfl
theorem own_bl {z : Bool} {v : V} (h : Own K F H (.fr (.bool z)) v T) : v = .bl z := by
  cases (show Dp K F v (.bool z) from h)
  rfl
theorem own_non {v : V} (h : Own K F H (.fr .none) v T) : v = .non := by
  cases (show Dp K F v .none from h)
  rfl
/-- the items of a list, of a tuple -/
@[simp] def lstO : O → Option (List O)
  | .fr (.list ds) => some (ds.map .fr)
  | .ol os => some os
  | _ => none
@[simp] def tupO : O → Option (List O)
  | .fr (.tuple ds) => some (ds.map .fr)
  | .ot os => some os
  | _ => none
theorem lst_ok (e : Ex F H) {o : O} {v : V} {os : List O} (r : Own K F H o v T) (h : lstO o = some os) : ∃ a vs, v = .ref a ∧ SqL K H a vs ∧ Owns K F H os vs T := by
  unfold lstO at h
  split at h
  · rename_i ds
    cases h
    cases (show Dp K F v (.list ds) from r) with
    | lst hs ha => exact ⟨_, _, rfl, e.l hs, (owns_fr ha).mono fun _ z => z.elim⟩
  · cases h
    obtain ⟨p, vs, U, ev, a, b, c, d, f, g⟩ := r
    exact ⟨p, vs, ev, SqL.of c, g.mono d⟩
  · cases h
theorem tup_ok (e : Ex F H) {o : O} {v : V} {os : List O} (r : Own K F H o v T) (h : tupO o = some os) : ∃ a vs, v = .ref a ∧ SqT K H a vs ∧ Owns K F H os vs T := by
  unfold tupO at h
  split at h
  · rename_i ds
    cases h
    cases (show Dp K F v (.tuple ds) from r) with
    | tup hs ha => exact ⟨_, _, rfl, e.t hs, (owns_fr ha).mono fun _ z => z.elim⟩
  · cases h
    obtain ⟨p, vs, U, ev, a, b, c, d, f, g⟩ := r
    exact ⟨p, vs, ev, SqT.of c, g.mono d⟩
  · cases h
theorem rpost_newL {q : O → Prop} {Q : VK} {os : List O} {vs : List V} {l : Addr} (p : RPost K F H S q Q) (e : Ex F H) (r : Owns K F H os vs T) (hT : ∀ a, T a → S a) (hl : H l = none) (h : q (.ol os)) : Q (.ref l) (upd H l (.lst vs)) :=
  p (.ol os) (.ref l) F (upd H l (.lst vs)) (Un2 (Tg H T) (fun a => a = l)) (ex_new1 e hl) (own_newL e r hl) (stp_new hl) (fun a z => z.elim (fun y => .inl (hT a y.1)) fun y => .inr (by rw [y]; exact hl)) h
theorem rpost_newT {q : O → Prop} {Q : VK} {os : List O} {vs : List V} {l : Addr} (p : RPost K F H S q Q) (e : Ex F H) (r : Owns K F H os vs T) (hT : ∀ a, T a → S a) (hl : H l = none) (h : q (.ot os)) : Q (.ref l) (upd H l (.tup vs)) :=
  p (.ot os) (.ref l) F (upd H l (.tup vs)) (Un2 (Tg H T) (fun a => a = l)) (ex_new1 e hl) (own_newT e r hl) (stp_new hl) (fun a z => z.elim (fun y => .inl (hT a y.1)) fun y => .inr (by rw [y]; exact hl)) h
theorem rpost_o {q : O → Prop} {Q : VK} {o : O} {v : V} (p : RPost K F H S q Q) (e : Ex F H) (r : Own K F H o v T) (hT : ∀ a, T a → S a) (h : q o) : Q v H :=
  p o v F H T e r Stp.refl (fun a z => .inl (hT a z)) h
/-! ### whole numbers -/
@[simp] def fI (C : Int → Int → Prop) (g : Int → Int → D) : OF := fun os q => match os with
  | [.fr (.int i), .fr (.int j)] => C i j ∧ q (.fr (g i j))
  | _ => False
theorem r2_I {C : Int → Int → Prop} {g : Int → Int → V} {gd : Int → Int → D} (hg : ∀ i j, scal K (g i j) (gd i j)) : R2Sim K (rI C g) (fI C gd) := fun F H o1 o2 x y S q Q e r h p => by
  unfold fI at h
  split at h
  · rename_i i j eo
    cases eo
    obtain ⟨S1, S2, r1, r2, _⟩ := owns_two r
    rw [own_int r1, own_int r2]
    exact ⟨i, j, rfl, rfl, h.1, rpost_s p e (hg i j) h.2⟩
  · exact h.elim
theorem r2_I0 {g : Int → Int → V} {gd : Int → Int → D} (hg : ∀ i j, scal K (g i j) (gd i j)) : R2Sim K (rI0 g) (fI (fun _ _ => True) gd) := fun F H o1 o2 x y S q Q e r h p => by
  unfold fI at h
  split at h
  · rename_i i j eo
    cases eo
    obtain ⟨S1, S2, r1, r2, _⟩ := owns_two r
    rw [own_int r1, own_int r2]
    exact ⟨i, j, rfl, rfl, rpost_s p e (hg i j) h.2⟩
  · exact h.elim
/-- + : whole numbers, texts, lists -/
def rCatL (K : PySem.W.Frag) : R2 := fun x y H Q => ∃ l b xs zs, x = .ref l ∧ y = .ref b ∧ SqL K H l xs ∧ SqL K H b zs ∧ xs.length + zs.length ≤ sizeLine ∧ ∀ p, H p = none → Q (.ref p) (upd H p (.lst (xs ++ zs)))
end
section
variable {prog : Program} {w : World} {A : Around} {E : Value → Shared → Prop} {s : Shared}
theorem add_listsR {l b : Addr} {vs ws : List Value} {Q : Value → Shared → Prop} (hl : s.heap.IsList l vs.toArray) (hb : s.heap.IsList b ws.toArray)
    (h : Q (.ref s.heap.objs.size) { s with heap := s.heap.push { cls := .type "list", data := .seq (vs ++ ws).toArray } }) (hsz : vs.length + ws.length ≤ sizeLine) :
    wpAny (model prog w) A (binaryOp .Add (.ref l) (.ref b)) Q E s := by
  obtain ⟨⟨cls, dd, data, sl⟩, ho, hc, n, hd⟩ := id hl
  obtain ⟨⟨cls2, dd2, data2, sl2⟩, ho2, hc2, n2, hd2⟩ := id hb
  simp only at hc hd hc2 hd2
  subst hc hd hc2 hd2
  have e : vs.toArray ++ ws.toArray = (vs ++ ws).toArray := by simp
  refine concat_meets ⟨_, ho, rfl⟩ ⟨_, ho2, rfl⟩ noFill_list_add seq_list_add PySem.F.slot_list_add PySem.F.entry_list_add (PySem.F.args_list_add_2 _ _) (list_addW l b vs.toArray ws.toArray n n2 dd dd2 sl sl2 (by simpa using hsz)) ⟨ho, ho2, ?_⟩
  rw [e]
  exact h
end
section
variable {X : Cx}
theorem op_catL : OpR X (binaryOp .Add) (rCatL X.K) := by
  intro pins s σ H x y v u Q I rx ry h
  obtain ⟨l, b, xs, zs, rfl, rfl, hH, hB, hz, q⟩ := h
  cases rx
  cases ry
  obtain ⟨its, r, hl, z⟩ := I.list hH
  obtain ⟨its2, r2, hl2, z2⟩ := I.list hB
  refine add_listsR hl.isList hl2.isList ?_ (by rw [← r.length, ← r2.length]; exact hz)
  have hf : H s.heap.objs.size = none := I.hok.fresh (Nat.le_refl _)
  refine ⟨.ref s.heap.objs.size, upd H s.heap.objs.size (.lst (xs ++ zs)), I.laid (t' := s.toks) (fun b u e => Heap.get?_push_of_some _ e) (Nat.le_refl _) ?_, rfl, q _ hf⟩
  exact ⟨by rw [List.length_append]; exact hz, its ++ its2, 0, r.append r2, Heap.get?_push_size _ rfl⟩
def rAddI : R2 := rI0 fun i j => .int (i + j)
def rAddS : R2 := fun x y H Q => ∃ i j, x = .str i ∧ y = .str j ∧ i.length + j.length ≤ sizeLine ∧ Q (.str (i ++ j)) H
def rAddU (K : PySem.W.Frag) : R2 := fun x y H Q => rAddI x y H Q ∨ rAddS x y H Q ∨ rCatL K x y H Q
theorem op_addU : OpR X (binaryOp .Add) (rAddU X.K) := by
  intro pins s σ H x y v u Q I rx ry h
  rcases h with h | h | h
  · exact op_add pins s σ H x y v u Q I rx ry h
  · exact op_add_str pins s σ H x y v u Q I rx ry h
  · exact op_catL pins s σ H x y v u Q I rx ry h
/-- * : whole numbers; a list of flat things times a number -/
def rMulI : R2 := rI CMulW fun i j => .int (i * j)
def rMulU : R2 := fun x y H Q => rMulI x y H Q ∨ rRep x y H Q
theorem op_mulU : OpR X (binaryOp .Mult) rMulU := by
  intro pins s σ H x y v u Q I rx ry h
  rcases h with h | h
  · exact op_mulW pins s σ H x y v u Q I rx ry h
  · exact op_rep pins s σ H x y v u Q I rx ry h
/-- in, not in: a sign in a text, a thing in a list, in a tuple of flat things -/
def rInSg (neg : Bool) : R2 := fun x y H Q => ∃ (c : Nat) (z : Str), x = .str ⟨#[c]⟩ ∧ y = .str z ∧ Q (.bl (if neg then !decide (c ∈ z.cps.toList) else decide (c ∈ z.cps.toList))) H
def rInU (K : PySem.W.Frag) : R2 := fun x y H Q => rInSg false x y H Q ∨ rInD K x y H Q ∨ rIn K false x y H Q
def rNiU (K : PySem.W.Frag) : R2 := fun x y H Q => rInSg true x y H Q ∨ rNotInD K x y H Q ∨ rIn K true x y H Q
theorem op_inU (hu : X.A.units + 65 < cLine) : OpR X (compareOp .In) (rInU X.K) := by
  intro pins s σ H x y v u Q I rx ry h
  rcases h with h | h | h
  · exact op_in_sign pins s σ H x y v u Q I rx ry h
  · exact op_inD hu pins s σ H x y v u Q I rx ry h
  · exact op_in_seq pins s σ H x y v u Q I rx ry h
theorem op_niU (hu : X.A.units + 65 < cLine) : OpR X (compareOp .NotIn) (rNiU X.K) := by
  intro pins s σ H x y v u Q I rx ry h
  rcases h with h | h | h
  · exact op_notIn_sign pins s σ H x y v u Q I rx ry h
  · exact op_notInD hu pins s σ H x y v u Q I rx ry h
  · exact op_notIn_seq pins s σ H x y v u Q I rx ry h
/-- ==, != : flat things; data -/
def rEqU (K : PySem.W.Frag) : R2 := fun x y H Q => rEq x y H Q ∨ rEqD K x y H Q
def rNeU (K : PySem.W.Frag) : R2 := fun x y H Q => rNe x y H Q ∨ rNeD K x y H Q
theorem op_eqU (hu : X.A.units + 65 < cLine) : OpR X (compareOp .Eq) (rEqU X.K) := by
  intro pins s σ H x y v u Q I rx ry h
  rcases h with h | h
  · exact op_eq pins s σ H x y v u Q I rx ry h
  · exact op_eqD (by omega) pins s σ H x y v u Q I rx ry h
theorem op_neU (hu : X.A.units + 65 < cLine) : OpR X (compareOp .NotEq) (rNeU X.K) := by
  intro pins s σ H x y v u Q I rx ry h
  rcases h with h | h
  · exact op_ne pins s σ H x y v u Q I rx ry h
  · exact op_neD (by omega) pins s σ H x y v u Q I rx ry h
theorem hu65 {A : Around} {k : Nat} (hr : Room k A) : A.units + 65 < cLine := by have := hr.un; omega
end
section
variable {K : PySem.W.Frag} {F H F1 H1 F2 H2 F' H' : Hp} {S S1 S2 T U : FP} {σ σ' : L2.St} {ρ ρ' : Env} {W : XK} {kp : List Nat}
@[simp] def fAdd : OF := fun os q => match os with
  | [.fr (.int i), .fr (.int j)] => q (.fr (.int (i + j)))
  | [.fr (.str i), .fr (.str j)] => i.length + j.length ≤ sizeLine ∧ q (.fr (.str (i ++ j)))
  | [a, b] => match lstO a, lstO b with
    | some xs, some ys => xs.length + ys.length ≤ sizeLine ∧ q (.ol (xs ++ ys))
    | _, _ => False
  | _ => False
theorem r2_add : R2Sim K (rAddU K) fAdd := fun F H o1 o2 x y S q Q e r h p => by
  unfold fAdd at h
  split at h
  · rename_i i j eo
    cases eo
    obtain ⟨S1, S2, r1, r2, _⟩ := owns_two r
    rw [own_int r1, own_int r2]
    exact .inl ⟨i, j, rfl, rfl, rpost_s p e scal_int h⟩
  · rename_i i j eo
    cases eo
    obtain ⟨S1, S2, r1, r2, _⟩ := owns_two r
    rw [own_str r1, own_str r2]
    exact .inr (.inl ⟨i, j, rfl, rfl, h.1, rpost_s p e scal_str h.2⟩)
  · rename_i a b _ _ eo
    cases eo
    split at h
    · rename_i xs ys e1 e2
      obtain ⟨S1, S2, r1, r2, dj, hS1, hS2⟩ := owns_two r
      obtain ⟨l, vs, rfl, h1, q1⟩ := lst_ok e r1 e1
      obtain ⟨m, ws, rfl, h2, q2⟩ := lst_ok e r2 e2
      refine .inr (.inr ⟨l, m, vs, ws, rfl, rfl, h1, h2, by rw [owns_len q1, owns_len q2]; exact h.1, fun t ht => ?_⟩)
      exact rpost_newL p e (owns_app q1 q2 dj) (fun a z => z.elim (hS1 a) (hS2 a)) ht h.2
    · exact h.elim
  · exact h.elim
/-- frozen things alone -/
def allFr (os : List O) : Bool := os.all isFr
theorem owns_rep {os : List O} {vs : List V} (hf : allFr os = true) (r : Owns K F H os vs T) : ∀ n : Nat, Owns K F H (List.replicate n os).flatten (List.replicate n vs).flatten (fun _ => False) := by
  have r0 : Owns K F H os vs (fun _ => False) := by
    induction os generalizing vs T with
    | nil => exact r
    | cons o os ih =>
      obtain ⟨v, vs', S1, S2, e, a, b, c, r1, r2⟩ := r
      unfold allFr at hf
      rw [List.all_cons, Bool.and_eq_true] at hf
      cases o with
      | fr d => exact ⟨v, vs', fun _ => False, fun _ => False, e, fun _ z => z, fun _ z => z, fun _ z => z.elim, r1, ih hf.2 r2⟩
      | ol _ => cases hf.1
      | ot _ => cases hf.1
      | od _ _ => cases hf.1
      | oi _ _ _ => cases hf.1
      | ox _ _ => cases hf.1
  intro n
  induction n with
  | zero => rfl
  | succ n ih =>
    rw [List.replicate_succ, List.replicate_succ, List.flatten_cons, List.flatten_cons]
    exact (owns_app r0 ih fun _ z => z.elim).mono fun _ z => z.elim id id
@[simp] def fMul : OF := fun os q => match os with
  | [.fr (.int i), .fr (.int j)] => CMulW i j ∧ q (.fr (.int (i * j)))
  | [.ol xs, .fr (.int j)] => allFr xs = true ∧ (-(2 ^ 63) ≤ j ∧ j < 2 ^ 63) ∧ xs.length * j.toNat ≤ sizeLine ∧ q (.ol (List.replicate j.toNat xs).flatten)
  | _ => False
theorem r2_mul : R2Sim K rMulU fMul := fun F H o1 o2 x y S q Q e r h p => by
  unfold fMul at h
  split at h
  · rename_i i j eo
    cases eo
    obtain ⟨S1, S2, r1, r2, _⟩ := owns_two r
    rw [own_int r1, own_int r2]
    exact .inl ⟨i, j, rfl, rfl, h.1, rpost_s p e scal_int h.2⟩
  · rename_i xs j eo
    cases eo
    obtain ⟨S1, S2, r1, r2, dj, hS1, hS2⟩ := owns_two r
    obtain ⟨l, vs, U, rfl, a, b, c, d, f, g⟩ := r1
    rw [own_int r2]
    refine .inr ⟨l, j, vs, rfl, rfl, c, h.2.1.1, h.2.1.2, by rw [owns_len g]; exact h.2.2.1, fun t ht => ?_⟩
    exact rpost_newL p e (owns_rep h.1 g j.toNat) (fun _ z => z.elim) ht h.2.2.2
  · exact h.elim
theorem owns_flat {os : List O} {vs : List V} : Owns K F H os vs T → vs.length = os.length := owns_len
/-- == -/
@[simp] def fEqB (neg : Bool) : OF := fun os q => match os with
  | [.fr (.int i), .fr (.int j)] => q (.fr (.bool (if neg then !decide (i = j) else decide (i = j))))
  | [.fr (.str i), .fr (.str j)] => q (.fr (.bool (if neg then !decide (i = j) else decide (i = j))))
  | [a, b] => flt a = true ∧ flt b = true ∧ SeqAt.shaped (er a) = true ∧ SeqAt.shaped (er b) = true ∧ q (.fr (.bool (if neg then !PyData.eqv (er a) (er b) else PyData.eqv (er a) (er b))))
  | _ => False
theorem dec_V {i j : Int} : decide (V.int i = V.int j) = decide (i = j) := decide_eq_decide.mpr ⟨fun h => by cases h; rfl, fun h => by rw [h]⟩
theorem dec_S {i j : Str} : decide (V.str i = V.str j) = decide (i = j) := decide_eq_decide.mpr ⟨fun h => by cases h; rfl, fun h => by rw [h]⟩
theorem r2_eq : R2Sim K (rEqU K) (fEqB false) := fun F H o1 o2 x y S q Q e r h p => by
  unfold fEqB at h
  split at h
  · rename_i i j eo
    cases eo
    obtain ⟨S1, S2, r1, r2, _⟩ := owns_two r
    rw [own_int r1, own_int r2]
    exact .inl ⟨rfl, by rw [dec_V]; exact rpost_s p e scal_bl h⟩
  · rename_i i j eo
    cases eo
    obtain ⟨S1, S2, r1, r2, _⟩ := owns_two r
    rw [own_str r1, own_str r2]
    exact .inl ⟨rfl, by rw [dec_S]; exact rpost_s p e scal_bl h⟩
  · rename_i a b _ _ eo
    cases eo
    obtain ⟨S1, S2, r1, r2, dj, hS1, hS2⟩ := owns_two r
    exact .inr ⟨_, _, r1.view e h.1, r2.view e h.2.1, h.2.2.1, h.2.2.2.1, rpost_s p e scal_bl h.2.2.2.2⟩
  · exact h.elim
theorem r2_ne : R2Sim K (rNeU K) (fEqB true) := fun F H o1 o2 x y S q Q e r h p => by
  unfold fEqB at h
  split at h
  · rename_i i j eo
    cases eo
    obtain ⟨S1, S2, r1, r2, _⟩ := owns_two r
    rw [own_int r1, own_int r2]
    exact .inl ⟨rfl, by rw [dec_V]; exact rpost_s p e scal_bl h⟩
  · rename_i i j eo
    cases eo
    obtain ⟨S1, S2, r1, r2, _⟩ := owns_two r
    rw [own_str r1, own_str r2]
    exact .inl ⟨rfl, by rw [dec_S]; exact rpost_s p e scal_bl h⟩
  · rename_i a b _ _ eo
    cases eo
    obtain ⟨S1, S2, r1, r2, dj, hS1, hS2⟩ := owns_two r
    exact .inr ⟨_, _, r1.view e h.1, r2.view e h.2.1, h.2.2.1, h.2.2.2.1, rpost_s p e scal_bl h.2.2.2.2⟩
  · exact h.elim
/-- in -/
@[simp] def flatD : D → Bool
  | .none => true
  | .bool _ => true
  | .int _ => true
  | .str _ => true
  | _ => false
theorem flat_V {v : V} {d : D} (h : flatD d = true) (r : Dp K F v d) : flatV v = true ∧ ∀ {u : V} {e : D}, flatD e = true → Dp K F u e → eqV u v = PyData.eqv e d := by
  cases r with
  | non => exact ⟨rfl, fun he r => by cases r <;> first | rfl | (cases he)⟩
  | bl b => exact ⟨rfl, fun he r => by cases r <;> first | rfl | (cases he)⟩
  | int i => exact ⟨rfl, fun he r => by cases r <;> first | rfl | (cases he)⟩
  | str x => exact ⟨rfl, fun he r => by cases r <;> first | rfl | (cases he)⟩
  | lst a b => cases h
  | tup a b => cases h
theorem flat_Vs {v : V} {d : D} (h : flatD d = true) (r : Dp K F v d) : ∀ {vs : List V} {ds : List D}, ds.all flatD = true → DpAll K F vs ds → vs.all flatV = true ∧ inV v vs = ds.any fun z => PyData.eqv z d
  | _, _, _, .nil => ⟨rfl, rfl⟩
  | _, _, hs, .cons r1 rs => by
    rw [List.all_cons, Bool.and_eq_true] at hs
    obtain ⟨a, b⟩ := flat_Vs h r hs.2 rs
    refine ⟨by rw [List.all_cons, Bool.and_eq_true]; exact ⟨(flat_V hs.1 r1).1, a⟩, ?_⟩
    unfold inV at b ⊢
    rw [List.any_cons, List.any_cons, b, (flat_V h r).2 hs.1 r1]
@[simp] def fInB (neg : Bool) : OF := fun os q => match os with
  | [.fr (.str x), .fr (.str z)] => ∃ c, x = ⟨#[c]⟩ ∧ q (.fr (.bool (if neg then !decide (c ∈ z.cps.toList) else decide (c ∈ z.cps.toList))))
  | [a, b] => flt a = true ∧ flt b = true ∧ match er b with
    | .list ds => SeqAt.shaped (er a) = true ∧ SeqAt.shaped (.list ds) = true ∧ q (.fr (.bool (if neg then !(ds.any fun z => PyData.eqv z (er a)) else ds.any fun z => PyData.eqv z (er a))))
    | .tuple ds => flatD (er a) = true ∧ ds.all flatD = true ∧ q (.fr (.bool (if neg then !(ds.any fun z => PyData.eqv z (er a)) else ds.any fun z => PyData.eqv z (er a))))
    | _ => False
  | _ => False
theorem r2_in : R2Sim K (rInU K) (fInB false) := fun F H o1 o2 x y S q Q e r h p => by
  unfold fInB at h
  split at h
  · rename_i x z eo
    cases eo
    obtain ⟨S1, S2, r1, r2, _⟩ := owns_two r
    obtain ⟨c, ec, h⟩ := h
    subst ec
    rw [own_str r1, own_str r2]
    exact .inl ⟨c, z, rfl, rfl, rpost_s p e scal_bl h⟩
  · rename_i a b _ eo
    cases eo
    obtain ⟨S1, S2, r1, r2, dj, hS1, hS2⟩ := owns_two r
    obtain ⟨ha, hb, h⟩ := h
    have v1 := r1.view e ha
    have v2 := r2.view e hb
    split at h
    · rename_i ds ed
      rw [ed] at v2
      exact .inr (.inl ⟨_, ds, v1, v2, h.1, h.2.1, rpost_s p e scal_bl h.2.2⟩)
    · rename_i ds ed
      rw [ed] at v2
      cases v2 with
      | tup hs hr =>
        obtain ⟨q1, q2⟩ := flat_Vs h.1 v1 h.2.1 hr
        refine .inr (.inr ⟨_, _, rfl, .inr hs, (flat_V h.1 v1).1, q1, ?_⟩)
        rw [q2]
        exact rpost_s p e scal_bl h.2.2
    · exact h.elim
  · exact h.elim
theorem r2_ni : R2Sim K (rNiU K) (fInB true) := fun F H o1 o2 x y S q Q e r h p => by
  unfold fInB at h
  split at h
  · rename_i x z eo
    cases eo
    obtain ⟨S1, S2, r1, r2, _⟩ := owns_two r
    obtain ⟨c, ec, h⟩ := h
    subst ec
    rw [own_str r1, own_str r2]
    exact .inl ⟨c, z, rfl, rfl, rpost_s p e scal_bl h⟩
  · rename_i a b _ eo
    cases eo
    obtain ⟨S1, S2, r1, r2, dj, hS1, hS2⟩ := owns_two r
    obtain ⟨ha, hb, h⟩ := h
    have v1 := r1.view e ha
    have v2 := r2.view e hb
    split at h
    · rename_i ds ed
      rw [ed] at v2
      exact .inr (.inl ⟨_, ds, v1, v2, h.1, h.2.1, rpost_s p e scal_bl h.2.2⟩)
    · rename_i ds ed
      rw [ed] at v2
      cases v2 with
      | tup hs hr =>
        obtain ⟨q1, q2⟩ := flat_Vs h.1 v1 h.2.1 hr
        refine .inr (.inr ⟨_, _, rfl, .inr hs, (flat_V h.1 v1).1, q1, ?_⟩)
        rw [q2]
        exact rpost_s p e scal_bl h.2.2
    · exact h.elim
  · exact h.elim
/-- is None -/
@[simp] def fIsN (neg : Bool) : OF := fun os q => match os with
  | [.fr .none, .fr .none] => q (.fr (.bool (!neg)))
  | [_, .fr .none] => q (.fr (.bool neg))
  | _ => False
theorem not_non {o : O} {v : V} (r : Own K F H o v T) (h : ∀ d, o = .fr d → d ≠ .none) : v ≠ .non := fun z => by
  subst z
  cases o with
  | fr d =>
    cases (show Dp K F .non d from r) with
    | non => exact h _ rfl rfl
  | ol os => obtain ⟨p, vs, U, e, _⟩ := r; cases e
  | ot os => obtain ⟨p, vs, U, e, _⟩ := r; cases e
  | od ks os => obtain ⟨p, vs, U, e, _⟩ := r; cases e
  | oi C ns os => obtain ⟨p, dx, vs, U, e, _⟩ := r; cases e
  | ox C fs => obtain ⟨p, d, e, _⟩ := r; cases e
theorem r2_isN : R2Sim K (fun x y H Q => y = .non ∧ Q (.bl (decide (x = .non))) H) (fIsN false) := fun F H o1 o2 x y S q Q e r h p => by
  unfold fIsN at h
  split at h
  · rename_i eo
    cases eo
    obtain ⟨S1, S2, r1, r2, _⟩ := owns_two r
    rw [own_non r1, own_non r2]
    exact ⟨rfl, rpost_s p e scal_bl h⟩
  · rename_i a hne eo
    cases eo
    obtain ⟨S1, S2, r1, r2, _⟩ := owns_two r
    rw [own_non r2]
    have hx : x ≠ .non := not_non r1 fun d ed en => by
      subst ed en
      exact hne rfl
    exact ⟨rfl, by rw [decide_eq_false hx]; exact rpost_s p e scal_bl h⟩
  · exact h.elim
theorem r2_notN : R2Sim K (fun x y H Q => y = .non ∧ Q (.bl (!decide (x = .non))) H) (fIsN true) := fun F H o1 o2 x y S q Q e r h p => by
  unfold fIsN at h
  split at h
  · rename_i eo
    cases eo
    obtain ⟨S1, S2, r1, r2, _⟩ := owns_two r
    rw [own_non r1, own_non r2]
    exact ⟨rfl, rpost_s p e scal_bl h⟩
  · rename_i a hne eo
    cases eo
    obtain ⟨S1, S2, r1, r2, _⟩ := owns_two r
    rw [own_non r2]
    have hx : x ≠ .non := not_non r1 fun d ed en => by
      subst ed en
      exact hne rfl
    exact ⟨rfl, by rw [decide_eq_false hx]; exact rpost_s p e scal_bl h⟩
  · exact h.elim
/-! ### places -/
theorem owns_get : ∀ {os : List O} {vs : List V} {T : FP} {i : Nat} {o : O}, Owns K F H os vs T → os[i]? = some o → ∃ v, vs[i]? = some v ∧ Own K F H o v T
  | [], _, _, _, _, _, h => by simp at h
  | o' :: os, vs, T, 0, o, ⟨v, vs', S1, S2, e, a, b, c, r1, r2⟩, h => by
    have h : o' = o := by simpa using h
    subst h e
    exact ⟨v, rfl, r1.mono a⟩
  | o' :: os, vs, T, i + 1, o, ⟨v, vs', S1, S2, e, a, b, c, r1, r2⟩, h => by
    subst e
    obtain ⟨w, h1, h2⟩ := owns_get (i := i) r2 (by simpa using h)
    exact ⟨w, by simpa using h1, h2.mono b⟩
theorem atI_len {α β : Type} {xs : List α} {ys : List β} {i : Int} {x : α} (hl : ys.length = xs.length) (h : atI xs i = some x) : ∃ j : Nat, xs[j]? = some x ∧ ∀ y : β, ys[j]? = some y → atI ys i = some y := by
  unfold atI at h ⊢
  rw [hl]
  cases e : ixN xs.length i with
  | none => rw [e] at h; cases h
  | some j =>
    rw [e] at h
    exact ⟨j, h, fun y hy => hy⟩
@[simp] def fIx : OF := fun os q => match os with
  | [.fr (.str z), .fr (.int i)] => z.length ≤ sizeLine ∧ match atI z.cps.toList i with
    | some c => q (.fr (.str ⟨#[c]⟩))
    | none => False
  | [a, .fr (.int i)] => match lstO a with
    | some xs => match atI xs i with
      | some o => q o
      | none => False
    | none => match tupO a with
      | some xs => match atI xs i with
        | some o => q o
        | none => False
      | none => False
  | _ => False
theorem r2_ix : R2Sim K (rIx K) fIx := fun F H o1 o2 x y S q Q e r h p => by
  unfold fIx at h
  split at h
  · rename_i z i eo
    cases eo
    obtain ⟨S1, S2, r1, r2, _⟩ := owns_two r
    rw [own_str r1, own_int r2]
    obtain ⟨hz, h⟩ := h
    split at h
    · rename_i c ec
      exact .inr (.inr ⟨z, i, c, rfl, rfl, hz, ec, rpost_s p e scal_str h⟩)
    · exact h.elim
  · rename_i a i _ eo
    cases eo
    obtain ⟨S1, S2, r1, r2, dj, hS1, hS2⟩ := owns_two r
    rw [own_int r2]
    split at h
    · rename_i xs ex
      split at h
      · rename_i o eo
        obtain ⟨l, vs, rfl, h1, q1⟩ := lst_ok e r1 ex
        obtain ⟨j, hj, hy⟩ := atI_len (owns_len q1) eo
        obtain ⟨v, hv, rv⟩ := owns_get q1 hj
        exact .inl ⟨l, vs, i, v, rfl, rfl, h1, hy v hv, rpost_o p e rv hS1 h⟩
      · exact h.elim
    · split at h
      · rename_i xs ex
        split at h
        · rename_i o eo
          obtain ⟨l, vs, rfl, h1, q1⟩ := tup_ok e r1 ex
          obtain ⟨j, hj, hy⟩ := atI_len (owns_len q1) eo
          obtain ⟨v, hv, rv⟩ := owns_get q1 hj
          exact .inr (.inl ⟨l, vs, i, v, rfl, rfl, h1, hy v hv, rpost_o p e rv hS1 h⟩)
        · exact h.elim
      · exact h.elim
  · exact h.elim
end
end DL
set_option Elab.async false
set_option linter.all false
set_option maxRecDepth 100000
set_option maxHeartbeats 4000000
namespace DL
open PySem PySem.Spec PyProof.Rows L2
section
variable {K : PySem.W.Frag} {F H F1 H1 F2 H2 F' H' : Hp} {S S1 S2 T U : FP} {σ σ' : L2.St} {ρ ρ' : Env} {W : XK} {kp : List Nat}
/-! ### chains a < b < c -/
@[simp] def dChain (f g : OF) (a b c : ET) : ET := fun ρ q x => a ρ (fun o1 ρ1 => b ρ1 (fun o2 ρ2 => isFr o2 = true ∧ f [o1, o2] fun z => match z with
  | .fr (.bool k) => if k = true then c ρ2 (fun o3 ρ3 => g [o2, o3] fun o => q o ρ3) x else q (.fr (.bool false)) ρ2
  | _ => False) x) x
theorem sim_chain {r r' : R2} {f g : OF} {ta tb tc : TE} {a b c : ET} (hr : R2Sim K r f) (hr' : R2Sim K r' g) (ha : Sim K W ta a) (hb : Sim K W tb b) (hc : Sim K W tc c) : Sim K W (tChain r r' ta tb tc) (dChain f g a b c) := fun F H σ ρ S q x Q st h p px => by
  refine ha F H σ ρ S _ x _ st h (fun o1 v1 ρ1 F1 H1 T1 S1 s1 r1 d1 st1 n1 h1 => ?_) px
  refine hb F1 H1 σ ρ1 S1 _ x _ s1 h1 (fun o2 v2 ρ2 F2 H2 T2 S2 s2 r2 d2 st2 n2 h2 => ?_) (px.after st1 (n1.sub fun _ z => .inr z))
  obtain ⟨hf2, h2⟩ := h2
  obtain ⟨q1, q2⟩ := hold r1 d1 st2 n2
  cases o2 with
  | ol _ => cases hf2
  | ot _ => cases hf2
  | od _ _ => cases hf2
  | oi _ _ _ => cases hf2
  | ox _ _ => cases hf2
  | fr e2 =>
  have rf2 : Own K F2 H2 (.fr e2) v2 (fun _ => False) := r2
  have st12 := st1.trans (n1.sub fun _ z => .inr z) st2
  have n12 : Fresh H S S2 := Fresh.trans st1 (n1.sub fun _ z => .inr z) (n2.sub fun _ z => .inr z)
  have n13 : Fresh H S (Un2 (Un2 (Tg H1 T1) (fun _ => False)) S2) := fun a z => z.elim (fun y => y.elim (fun w => n1 a (.inl w.1)) fun w => w.elim) (n12 a)
  refine hr F2 H2 o1 (.fr e2) v1 v2 (Un2 (Tg H1 T1) (fun _ => False)) _ _ s2.ex (owns2 q1 rf2 fun _ _ z => z) h2 ?_
  intro z vz F3 H3 T3 e3 rz st3 n3 hz
  split at hz
  · rename_i k
    rw [own_bl rz]
    have n3' : Fresh H2 (Tg H1 T1) T3 := n3.mono fun a z => z.elim id fun y => y.elim
    have st3' : Stp F2 H2 (Tg H1 T1) F3 H3 := st3.mono fun a z => z.elim id fun y => y.elim
    have dj : Dj S2 (Tg H1 T1) := fun a y z => q2 a z (.inr y)
    have sl3 := holdS s2.sl dj st3' n3'
    have st13 : Stp F H S F3 H3 := st12.trans n13 (st3'.mono fun a z => .inl (.inl z))
    have n14 : Fresh H S (Tg H2 S2) := fun a z => n12 a z.1
    refine ⟨k, rfl, ?_⟩
    cases k with
    | false => exact p (.fr (.bool false)) _ ρ2 F3 H3 (fun _ => False) (Tg H2 S2) ⟨e3, sl3.1⟩ (scal_bl F3) (fun _ z => z.elim) st13 (fun a z => z.elim (fun y => y.elim) (n14 a)) hz
    | true =>
      refine hc F3 H3 σ ρ2 (Tg H2 S2) _ x _ ⟨e3, sl3.1⟩ hz (fun o3 v3 ρ3 F4 H4 T4 S4 s4 r4 d4 st4 n4 h4 => ?_) (px.after st13 n14)
      have st14 := st13.trans n14 st4
      have n15 : Fresh H S (Un2 T4 S4) := Fresh.trans st13 n14 n4
      have rf4 : Own K F4 H4 (.fr e2) v2 (fun _ => False) := dp_ex (st3.ex.trans st4.ex) r2
      refine hr' F4 H4 (.fr e2) o3 v2 v3 (Un2 (fun _ => False) T4) _ Q s4.ex (owns2 rf4 r4 fun _ z => z.elim) h4 ?_
      exact rpost p st14 (n15.sub fun a z => z.imp (fun y => y.elim (fun w => w.elim) id) id) s4 fun a z => z.elim (fun w => w.elim) (d4 a)
  · exact hz.elim
/-! ### slices -/
abbrev OT := Env → (Option Int → Env → Prop) → XP → Prop
def SimO (K : PySem.W.Frag) (W : XK) (to : TO) (t : OT) : Prop :=
  ∀ F H σ ρ S q x Q, ST K F H σ ρ S → t ρ q x → (∀ i ρ' F' H' S', ST K F' H' σ ρ' S' → Stp F H S F' H' → Fresh H S S' → q i ρ' → Q i H') → PostX K F H σ S x W → to σ H Q
@[simp] def dNoPart : OT := fun ρ q _ => q none ρ
@[simp] def dPart (t : ET) : OT := fun ρ q x => t ρ (fun o ρ1 => match o with
  | .fr (.int i) => q (some i) ρ1
  | _ => False) x
theorem sim_noPart : SimO K W tNoPart dNoPart := fun F H σ ρ S q x Q st h p px => p none ρ F H S st Stp.refl Fresh.refl h
theorem sim_part {te : TE} {t : ET} (ht : Sim K W te t) : SimO K W (tPart te) (dPart t) := fun F H σ ρ S q x Q st h p px => by
  refine ht F H σ ρ S _ x _ st h (fun o v ρ' F' H' T S' s1 r d stp n hq => ?_) px
  split at hq
  · rename_i i
    exact ⟨i, own_int r, p (some i) ρ' F' H' S' s1 stp (n.sub fun _ z => .inr z) hq⟩
  · exact hq.elim
def cutO (xs : List O) (lo hi : Option Int) : List O := (xs.drop (HT.sIx xs.length 0 lo)).take (HT.sIx xs.length xs.length hi - HT.sIx xs.length 0 lo)
theorem owns_drop : ∀ {os : List O} {vs : List V} {T : FP} (n : Nat), Owns K F H os vs T → Owns K F H (os.drop n) (vs.drop n) T
  | os, vs, T, 0, h => h
  | [], vs, T, n + 1, h => by
    have h : vs = [] := h
    subst h
    exact rfl
  | o :: os, vs, T, n + 1, ⟨v, vs', S1, S2, e, a, b, c, r1, r2⟩ => by
    subst e
    exact (owns_drop n r2).mono b
theorem owns_take : ∀ {os : List O} {vs : List V} {T : FP} (n : Nat), Owns K F H os vs T → Owns K F H (os.take n) (vs.take n) T
  | os, vs, T, 0, h => rfl
  | [], vs, T, n + 1, h => by
    have h : vs = [] := h
    subst h
    exact rfl
  | o :: os, vs, T, n + 1, ⟨v, vs', S1, S2, e, a, b, c, r1, r2⟩ => by
    subst e
    exact ⟨v, vs'.take n, S1, S2, rfl, a, b, c, r1, owns_take n r2⟩
@[simp] def dSlL (t : ET) (l u : OT) : ET := fun ρ q x => t ρ (fun o ρ1 => allowed o ∧ l ρ1 (fun lo ρ2 => u ρ2 (fun hi ρ3 => match lstO o with
  | some xs => q (.ol (cutO xs lo hi)) ρ3
  | none => False) x) x) x
where allowed (_ : O) : Prop := True
theorem sim_slL {te : TE} {tl tu : TO} {t : ET} {l u : OT} (ht : Sim K W te t) (hl : SimO K W tl l) (hu : SimO K W tu u) : Sim K W (tSl (rSlL K) te tl tu) (dSlL t l u) := fun F H σ ρ S q x Q st h p px => by
  refine ht F H σ ρ S _ x _ st h (fun o v ρ1 F1 H1 T1 S1 s1 r1 d1 st1 n1 h1 => ?_) px
  obtain ⟨_, h1⟩ := h1
  refine hl F1 H1 σ ρ1 S1 _ x _ s1 h1 (fun lo ρ2 F2 H2 S2 s2 st2 n2 h2 => ?_) (px.after st1 (n1.sub fun _ z => .inr z))
  have st12 := st1.trans (n1.sub fun _ z => .inr z) st2
  have n12 : Fresh H S S2 := Fresh.trans st1 (n1.sub fun _ z => .inr z) n2
  obtain ⟨q1, q2⟩ := hold r1 d1 st2 n2
  refine hu F2 H2 σ ρ2 S2 _ x _ s2 h2 (fun hi ρ3 F3 H3 S3 s3 st3 n3 h3 => ?_) (px.after st12 n12)
  obtain ⟨q3, q4⟩ := hold q1 q2 st3 n3
  have st13 := st12.trans n12 st3
  have n13 : Fresh H S S3 := Fresh.trans st12 n12 n3
  split at h3
  · rename_i xs ex
    obtain ⟨a, vs, rfl, hs, ro⟩ := lst_ok s3.ex q3 ex
    refine ⟨a, vs, rfl, hs, fun pl hp => ?_⟩
    have rc : Owns K F3 H3 (cutO xs lo hi) (cutV vs lo hi) (Tg H2 (Tg H1 T1)) := by
      unfold cutO cutV
      rw [← owns_len ro]
      exact owns_take _ (owns_drop _ ro)
    refine rpost p st13 (T := Tg H2 (Tg H1 T1)) ?_ s3 q4 (.ol (cutO xs lo hi)) (.ref pl) F3 _ (Un2 (Tg H3 (Tg H2 (Tg H1 T1))) (fun a => a = pl)) (ex_new1 s3.ex hp) (own_newL s3.ex rc hp) (stp_new hp) (fun a z => z.elim (fun y => .inl y.1) fun y => .inr (by rw [y]; exact hp)) h3
    exact fun a z => z.elim (fun y => n1 a (.inl y.1.1)) (n13 a)
  · exact h3.elim
/-! ### built-ins by values -/
@[simp] def fLen : OF := fun os q => match os with
  | [.fr (.str z)] => z.length ≤ sizeLine ∧ q (.fr (.int (z.length : Nat)))
  | [o] => match lstO o with
    | some xs => q (.fr (.int (xs.length : Nat)))
    | none => match tupO o with
      | some xs => q (.fr (.int (xs.length : Nat)))
      | none => False
  | _ => False
theorem cs_len : CSim K (fun xs H Q => ∃ x n, xs = [x] ∧ LenV K x H n ∧ Q (.int (n : Nat)) H) fLen := fun F H os vs S q Q e r h p => by
  unfold fLen at h
  split at h
  · rename_i z
    obtain ⟨x, rfl, r1⟩ := owns_inv1 r
    rw [own_str r1]
    exact ⟨.str z, z.length, rfl, ⟨h.1, rfl⟩, rpost_s p e scal_int h.2⟩
  · rename_i o _
    obtain ⟨x, rfl, r1⟩ := owns_inv1 r
    split at h
    · rename_i xs ex
      obtain ⟨l, vs, rfl, h1, q1⟩ := lst_ok e r1 ex
      exact ⟨.ref l, xs.length, rfl, .inl ⟨vs, h1, (owns_len q1).symm⟩, rpost_s p e scal_int h⟩
    · split at h
      · rename_i xs ex
        obtain ⟨l, vs, rfl, h1, q1⟩ := tup_ok e r1 ex
        exact ⟨.ref l, xs.length, rfl, .inr ⟨vs, h1, (owns_len q1).symm⟩, rpost_s p e scal_int h⟩
      · exact h.elim
  · exact h.elim
@[simp] def fInt1 : OF := fun os q => match os with
  | [.fr (.int i)] => q (.fr (.int i))
  | [.fr (.bool k)] => q (.fr (.int (if k then 1 else 0)))
  | [.fr (.str a)] => ∃ n, PySem.intText? a = some n ∧ a.length ≤ 640 ∧ q (.fr (.int n))
  | _ => False
def rIntU : List V → Hp → VK → Prop := fun xs H Q => ((∃ i, xs = [.int i] ∧ Q (.int i) H) ∨ ∃ k, xs = [.bl k] ∧ Q (.int (if k then 1 else 0)) H) ∨ ∃ a n, xs = [.str a] ∧ PySem.intText? a = some n ∧ a.length ≤ 640 ∧ Q (.int n) H
theorem call_intU {X : Cx} : CallR X (.type "int") rIntU := by
  intro pins s σ H xs us Q I r h
  rcases h with h | h
  · exact call_int1 pins s σ H xs us Q I r h
  · exact call_int_str pins s σ H xs us Q I r h
theorem cs_int : CSim K rIntU fInt1 := fun F H os vs S q Q e r h p => by
  unfold fInt1 at h
  split at h
  · rename_i i
    obtain ⟨x, rfl, r1⟩ := owns_inv1 r
    rw [own_int r1]
    exact .inl (.inl ⟨i, rfl, rpost_s p e scal_int h⟩)
  · rename_i k
    obtain ⟨x, rfl, r1⟩ := owns_inv1 r
    rw [own_bl r1]
    exact .inl (.inr ⟨k, rfl, rpost_s p e scal_int h⟩)
  · rename_i a
    obtain ⟨x, rfl, r1⟩ := owns_inv1 r
    rw [own_str r1]
    obtain ⟨n, h1, h2, h3⟩ := h
    exact .inr ⟨a, n, rfl, h1, h2, rpost_s p e scal_int h3⟩
  · exact h.elim
@[simp] def fStr : OF := fun os q => match os with
  | [.fr (.int i)] => i.natAbs.log2 < 1920 ∧ q (.fr (.str (toString i)))
  | _ => False
theorem cs_str : CSim K (fun xs H Q => ∃ i, xs = [.int i] ∧ i.natAbs.log2 < 1920 ∧ Q (.str (toString i)) H) fStr := fun F H os vs S q Q e r h p => by
  unfold fStr at h
  split at h
  · rename_i i
    obtain ⟨x, rfl, r1⟩ := owns_inv1 r
    rw [own_int r1]
    exact ⟨i, rfl, h.1, rpost_s p e scal_str h.2⟩
  · exact h.elim
@[simp] def fMin2 : OF := fun os q => match os with
  | [.fr (.int i), .fr (.int j)] => q (.fr (.int (min i j)))
  | _ => False
@[simp] def fMax2 : OF := fun os q => match os with
  | [.fr (.int i), .fr (.int j)] => q (.fr (.int (max i j)))
  | _ => False
theorem cs_min2 : CSim K (fun xs H Q => ∃ i j, xs = [.int i, .int j] ∧ Q (.int (if j < i then j else i)) H) fMin2 := fun F H os vs S q Q e r h p => by
  unfold fMin2 at h
  split at h
  · rename_i i j
    obtain ⟨x, y, rfl, r'⟩ := owns_inv2 r
    obtain ⟨S1, S2, r1, r2, _⟩ := owns_two r'
    rw [own_int r1, own_int r2]
    refine ⟨i, j, rfl, ?_⟩
    have : (if j < i then j else i) = min i j := by omega
    rw [this]
    exact rpost_s p e scal_int h
  · exact h.elim
theorem cs_max2 : CSim K (fun xs H Q => ∃ i j, xs = [.int i, .int j] ∧ Q (.int (if j > i then j else i)) H) fMax2 := fun F H os vs S q Q e r h p => by
  unfold fMax2 at h
  split at h
  · rename_i i j
    obtain ⟨x, y, rfl, r'⟩ := owns_inv2 r
    obtain ⟨S1, S2, r1, r2, _⟩ := owns_two r'
    rw [own_int r1, own_int r2]
    refine ⟨i, j, rfl, ?_⟩
    have : (if j > i then j else i) = max i j := by omega
    rw [this]
    exact rpost_s p e scal_int h
  · exact h.elim
@[simp] def fMin3 : OF := fun os q => match os with
  | [.fr (.int i), .fr (.int j), .fr (.int k)] => q (.fr (.int (min (min i j) k)))
  | _ => False
theorem nuMin3_int (i j k : Int) : nuMin3 (.int i) (.int j) (.int k) = some (.int (min (min i j) k)) := by
  have h2 : ∀ a b : Int, nuMin2 (.int a) (.int b) = some (.int (min a b)) := fun a b => by
    show some (if decide (b < a) = true then V.int b else V.int a) = _
    by_cases h : b < a
    · rw [if_pos (decide_eq_true h), show min a b = b by omega]
    · rw [if_neg (by simpa using h), show min a b = a by omega]
  unfold nuMin3
  rw [h2]
  exact h2 _ _
theorem cs_min3 : CSim K (rNuC3 nuMin3) fMin3 := fun F H os vs S q Q e r h p => by
  unfold fMin3 at h
  split at h
  · rename_i i j k
    obtain ⟨v, vs', A, B, ev, _, _, _, r1, r2⟩ := r
    subst ev
    obtain ⟨x, y, rfl, r'⟩ := owns_inv2 r2
    obtain ⟨S1, S2, r3, r4, _⟩ := owns_two r'
    rw [own_int r1, own_int r3, own_int r4]
    exact ⟨_, _, _, _, rfl, nuMin3_int i j k, rpost_s p e scal_int h⟩
  · exact h.elim
/-- all, any of a list of truths -/
def boolsO : List O → Option (List Bool)
  | [] => some []
  | .fr (.bool b) :: r => (boolsO r).map (b :: ·)
  | _ :: _ => none
theorem bools_ok : ∀ {os : List O} {vs : List V} {T : FP} {bs : List Bool}, Owns K F H os vs T → boolsO os = some bs → vs = bs.map V.bl
  | [], vs, T, bs, h, e => by
    have h : vs = [] := h
    cases (show some ([] : List Bool) = some bs from e)
    exact h
  | .fr (.bool b) :: r, vs, T, bs, ⟨v, vs', S1, S2, ev, _, _, _, r1, r2⟩, e => by
    have e : (boolsO r).map (b :: ·) = some bs := e
    cases e1 : boolsO r with
    | none => rw [e1] at e; cases e
    | some bs' =>
      rw [e1] at e
      cases e
      rw [ev, own_bl r1, bools_ok r2 e1]
      rfl
@[simp] def fAll : OF := fun os q => match os with
  | [o] => match lstO o with
    | some xs => match boolsO xs with
      | some bs => q (.fr (.bool (bs.all id)))
      | none => False
    | none => False
  | _ => False
theorem cs_all : CSim K (rAll K) fAll := fun F H os vs S q Q e r h p => by
  unfold fAll at h
  split at h
  · rename_i o
    obtain ⟨x, rfl, r1⟩ := owns_inv1 r
    split at h
    · rename_i xs ex
      split at h
      · rename_i bs eb
        obtain ⟨l, vs, rfl, h1, q1⟩ := lst_ok e r1 ex
        rw [bools_ok q1 eb] at h1
        exact ⟨l, bs, rfl, h1, rpost_s p e scal_bl h⟩
      · exact h.elim
    · exact h.elim
  · exact h.elim
/-- list(xs) of a list -/
@[simp] def fList : OF := fun os q => match os with
  | [o] => match lstO o with
    | some xs => q (.ol xs)
    | none => match tupO o with
      | some xs => q (.ol xs)
      | none => False
  | _ => False
theorem cs_list : CSim K (fun xs H Q => ∃ p ys, xs = [.ref p] ∧ (SqL K H p ys ∨ SqT K H p ys) ∧ ∀ l, H l = none → Q (.ref l) (upd H l (.lst ys))) fList := fun F H os vs S q Q e r h p => by
  unfold fList at h
  split at h
  · rename_i o
    obtain ⟨x, rfl, r1⟩ := owns_inv1 r
    split at h
    · rename_i xs ex
      obtain ⟨l, vs, rfl, h1, q1⟩ := lst_ok e r1 ex
      exact ⟨l, vs, rfl, .inl h1, fun m hm => rpost_newL p e q1 (fun _ z => z) hm h⟩
    · split at h
      · rename_i xs ex
        obtain ⟨l, vs, rfl, h1, q1⟩ := tup_ok e r1 ex
        exact ⟨l, vs, rfl, .inr h1, fun m hm => rpost_newL p e q1 (fun _ z => z) hm h⟩
      · exact h.elim
  · exact h.elim
end
end DL
set_option Elab.async false
set_option linter.all false
set_option maxRecDepth 100000
set_option maxHeartbeats 4000000
namespace DL
open PySem PySem.Spec PyProof.Rows L2
section
variable {K : PySem.W.Frag} {F H F1 H1 F2 H2 F' H' : Hp} {S S1 S2 T U : FP} {σ σ' : L2.St} {ρ ρ' : Env} {W : XK} {kp : List Nat}
/-! ### isinstance(e, T), T a built-in class -/
@[simp] def tyD : D → String
  | .none => "NoneType"
  | .bool _ => "bool"
  | .int _ => "int"
  | .str _ => "str"
  | .list _ => "list"
  | .tuple _ => "tuple"
  | .dict _ => "dict"
@[simp] def tyO : O → Option String
  | .fr d => some (tyD d)
  | .ol _ => some "list"
  | .ot _ => some "tuple"
  | .od _ _ => some "dict"
  | .oi _ _ _ => none
  | .ox _ _ => none
theorem ty_l {a : Addr} {xs : List V} (h : SqL K H a xs) : TyX K H (.ref a) (.type "list") := by
  rcases h with (h | ⟨o, h⟩) | ⟨o, its, n, h, c, _⟩
  · exact .base (.lst h)
  · exact .base (.frz h)
  · exact .kList h c
theorem ty_t {a : Addr} {xs : List V} (h : SqT K H a xs) : TyX K H (.ref a) (.type "tuple") := by
  rcases h with (h | ⟨o, h⟩) | ⟨o, its, n, h, c, _⟩
  · exact .base (.tup h)
  · exact .fTuple h
  · exact .kTuple h c
theorem ty_ok (e : Ex F H) {o : O} {v : V} {m : String} (r : Own K F H o v T) (h : tyO o = some m) : TyX K H v (.type m) := by
  cases o with
  | fr d =>
    have r : Dp K F v d := r
    cases r with
    | non => cases h; exact .base .non
    | bl b => cases h; exact .base (.bl b)
    | int i => cases h; exact .base (.int i)
    | str x => cases h; exact .base (.str x)
    | lst hs _ => cases h; exact ty_l (e.l hs)
    | tup hs _ => cases h; exact ty_t (e.t hs)
  | ol os => obtain ⟨p, vs, U, ev, a, b, c, _⟩ := r; cases h; subst ev; exact .base (.lst c)
  | ot os => obtain ⟨p, vs, U, ev, a, b, c, _⟩ := r; cases h; subst ev; exact .base (.tup c)
  | od ks os => obtain ⟨p, vs, U, ev, a, b, c, _⟩ := r; cases h; subst ev; exact .base (.dK c)
  | oi C ns os => cases h
  | ox C fs => cases h
/-- what isinstance answers of built-in classes -/
@[simp] def isiB (m n : String) : Bool := m == n || (m == "bool" && n == "int")
@[simp] def dIsi (n : String) (t : ET) : ET := fun ρ q x => t ρ (fun o ρ1 => match tyO o with
  | some m => q (.fr (.bool (isiB m n))) ρ1
  | none => False) x
/-- the answers, as facts of the model -/
def IsiOk (K : PySem.W.Frag) (n : String) : Prop := ∀ o m, tyO o = some m → PySem.W.kitOne K (.type m) (.type n) = some (isiB m n)
theorem sim_isi {n : String} {te : TE} {t : ET} (hk : IsiOk K n) (h : Sim K W te t) : Sim K W (tCB (rIsi K) (tCons te (tCons (tC (.ty n)) tNil))) (dIsi n t) := fun F H σ ρ S q x Q st ht p px => by
  refine h F H σ ρ S _ _ _ st ht (fun o v ρ' F' H' T S' s1 r d stp n' hq => ?_) px
  split at hq
  · rename_i m em
    refine ⟨v, .ty n, .type m, .type n, isiB m n, rfl, .ty n, ty_ok s1.ex r em, hk o m em, ?_⟩
    exact p (.fr (.bool (isiB m n))) _ ρ' F' H' (fun _ => False) S' s1 (scal_bl F') (fun _ z => z.elim) stp (fun a z => z.elim (fun y => y.elim) fun y => n' a (.inr y)) hq
  · exact hq.elim
theorem tyO_in {o : O} {m : String} (h : tyO o = some m) : m ∈ ["NoneType", "bool", "int", "str", "list", "tuple", "dict"] := by
  cases o with
  | fr d => cases d <;> simp [tyO, tyD] at h <;> subst h <;> decide
  | ol os => simp [tyO] at h; subst h; decide
  | ot os => simp [tyO] at h; subst h; decide
  | od ks os => simp [tyO] at h; subst h; decide
  | oi C ns os => simp [tyO] at h
  | ox C fs => simp [tyO] at h
/-! ### list(range(..)), list(reversed(..)), n.bit_length() -/
def dLstRg (a b : ET) : ET := fun ρ q x => a ρ (fun o1 ρ1 => b ρ1 (fun o2 ρ2 => match o1, o2 with
  | .fr (.int i), .fr (.int j) => RgOk i j ∧ q (.ol ((rngD i (j - i).toNat).map .fr)) ρ2
  | _, _ => False) x) x
theorem rgV_owns {i j : Int} : Owns K F H ((rngD i (j - i).toNat).map .fr) (rgV i j) (fun _ => False) := by
  have : ∀ (l : List Nat), Owns K F H ((l.map fun (k : Nat) => PyData.int (i + (k : Int))).map .fr) (l.map fun (k : Nat) => V.int (i + (k : Int))) (fun _ => False) := by
    intro l
    induction l with
    | nil => exact rfl
    | cons a l ih => exact ⟨_, _, fun _ => False, fun _ => False, rfl, fun _ z => z, fun _ z => z, fun _ z => z.elim, .int _, ih⟩
  unfold rngD rgV
  exact this _
@[simp] def dLstRg1 (a : ET) : ET := fun ρ q x => a ρ (fun o1 ρ1 => match o1 with
  | .fr (.int j) => RgOk 0 j ∧ q (.ol ((rngD 0 j.toNat).map .fr)) ρ1
  | _ => False) x
theorem sim_lstRg1 {ta : TE} {a : ET} (ha : Sim K W ta a) : Sim K W (tLstRg (tRg1 ta)) (dLstRg1 a) := fun F H σ ρ S q x Q st ht p px => by
  refine ha F H σ ρ S _ _ _ st ht (fun o v ρ' F' H' T S' s1 r d stp n hq => ?_) px
  split at hq
  · rename_i j
    refine ⟨j, own_int r, hq.1, fun l hl => ?_⟩
    have ro : Owns K F' H' ((rngD 0 j.toNat).map .fr) (rgV 0 j) (fun _ => False) := by
      have := rgV_owns (K := K) (F := F') (H := H') (i := 0) (j := j)
      rwa [Int.sub_zero] at this
    exact rpost p stp n s1 d (.ol _) (.ref l) F' _ (Un2 (Tg H' (fun _ => False)) (fun a => a = l)) (ex_new1 s1.ex hl) (own_newL s1.ex ro hl) (stp_new hl) (fun a z => z.elim (fun y => y.1.elim) fun y => .inr (by rw [y]; exact hl)) hq.2
  · exact hq.elim
def tLstRev (K : PySem.W.Frag) (te : TE) : TE := fun σ H Q => te σ H fun v H1 => ∃ (a : Addr) (xs : List V), v = .ref a ∧ SqL K H1 a xs ∧ ∀ l, H1 l = none → Q (.ref l) (upd H1 l (.lst xs.reverse))
theorem owns_perm_rev : ∀ {os : List O} {vs : List V} {T : FP}, Owns K F H os vs T → Owns K F H os.reverse vs.reverse T
  | [], vs, T, h => by
    have h : vs = [] := h
    subst h
    exact rfl
  | o :: os, vs, T, ⟨v, vs', S1, S2, e, a, b, c, r1, r2⟩ => by
    subst e
    rw [List.reverse_cons, List.reverse_cons]
    exact (owns_snoc (owns_perm_rev r2) r1 fun a y z => c a z y).mono fun x z => z.elim (b x) (a x)
@[simp] def dLstRev (t : ET) : ET := fun ρ q x => t ρ (fun o ρ1 => match lstO o with
  | some xs => q (.ol xs.reverse) ρ1
  | none => False) x
theorem sim_lstRev {te : TE} {t : ET} (h : Sim K W te t) : Sim K W (tLstRev K te) (dLstRev t) := fun F H σ ρ S q x Q st ht p px => by
  refine h F H σ ρ S _ _ _ st ht (fun o v ρ' F' H' T S' s1 r d stp n hq => ?_) px
  split at hq
  · rename_i xs ex
    obtain ⟨a, vs, rfl, hs, ro⟩ := lst_ok s1.ex r ex
    refine ⟨a, vs, rfl, hs, fun l hl => ?_⟩
    exact rpost p stp n s1 d (.ol _) (.ref l) F' _ (Un2 (Tg H' T) (fun a => a = l)) (ex_new1 s1.ex hl) (own_newL s1.ex (owns_perm_rev ro) hl) (stp_new hl) (fun a z => z.elim (fun y => .inl y.1) fun y => .inr (by rw [y]; exact hl)) hq
  · exact hq.elim
@[simp] def dBits (t : ET) : ET := fun ρ q x => t ρ (fun o ρ1 => match o with
  | .fr (.int i) => q (.fr (.int (Builtin.Int.intBits i : Nat))) ρ1
  | _ => False) x
theorem sim_bits {te : TE} {t : ET} (h : Sim K W te t) : Sim K W (tBits te) (dBits t) := fun F H σ ρ S q x Q st ht p px => by
  refine h F H σ ρ S _ _ _ st ht (fun o v ρ' F' H' T S' s1 r d stp n hq => ?_) px
  split at hq
  · rename_i i
    refine ⟨i, own_int r, ?_⟩
    exact p (.fr (.int _)) _ ρ' F' H' (fun _ => False) S' s1 (scal_int F') (fun _ z => z.elim) stp (fun a z => z.elim (fun y => y.elim) fun y => n a (.inr y)) hq
  · exact hq.elim
/-! ### methods of texts -/
def M1Sim (K : PySem.W.Frag) (r : V → List V → Hp → VK → Prop) (f : OF) : Prop :=
  ∀ F H o1 o2 x y S q Q, Ex F H → Owns K F H [o1, o2] [x, y] S → f [o1, o2] q → RPost K F H S q Q → r x [y] H Q
@[simp] def isStr : O → Bool
  | .fr (.str _) => true
  | _ => false
@[simp] def dM1 (f : OF) (a b : ET) : ET := fun ρ q x => a ρ (fun o1 ρ1 => isStr o1 = true ∧ b ρ1 (fun o2 ρ2 => f [o1, o2] fun o => q o ρ2) x) x
theorem sim_m1 {r : V → List V → Hp → VK → Prop} {f : OF} {ta tb : TE} {a b : ET} (hr : M1Sim K r f) (ha : Sim K W ta a) (hb : Sim K W tb b) : Sim K W (tM1 r ta tb) (dM1 f a b) := fun F H σ ρ S q x Q st h p px => by
  refine ha F H σ ρ S _ x _ st h (fun o1 v1 ρ1 F1 H1 T1 S1 s1 r1 d1 st1 n1 h1 => ?_) px
  obtain ⟨hs, h1⟩ := h1
  have hv : ∃ z, v1 = .str z := by
    unfold isStr at hs
    split at hs
    · exact ⟨_, own_str r1⟩
    · cases hs
  refine ⟨hv, ?_⟩
  refine hb F1 H1 σ ρ1 S1 _ x _ s1 h1 (fun o2 v2 ρ2 F2 H2 T2 S2 s2 r2 d2 st2 n2 h2 => ?_) (px.after st1 (n1.sub fun _ z => .inr z))
  obtain ⟨q1, q2⟩ := hold r1 d1 st2 n2
  have n3 : Fresh H S (Un2 (Un2 (Tg H1 T1) T2) S2) := by
    intro a z
    rcases z with (z | z) | z
    · exact n1 a (.inl z.1)
    · exact Fresh.trans st1 (n1.sub fun _ z => .inr z) n2 a (.inl z)
    · exact Fresh.trans st1 (n1.sub fun _ z => .inr z) n2 a (.inr z)
  refine hr F2 H2 o1 o2 v1 v2 (Un2 (Tg H1 T1) T2) (fun o => q o ρ2) Q s2.ex (owns2 q1 r2 fun a y z => q2 a y (.inl z)) h2 ?_
  exact rpost p (st1.trans (n1.sub fun _ z => .inr z) st2) n3 s2 fun a z => z.elim (fun y w => q2 a y (.inr w)) (d2 a)
def strsD (ys : List Str) : List O := ys.map fun y => .fr (.str y)
theorem strs_owns (ys : List Str) : Owns K F H (strsD ys) (ys.map V.str) (fun _ => False) := by
  induction ys with
  | nil => exact rfl
  | cons y ys ih => exact ⟨_, _, fun _ => False, fun _ => False, rfl, fun _ z => z, fun _ z => z, fun _ z => z.elim, .str y, ih⟩
@[simp] def fSplit : OF := fun os q => match os with
  | [.fr (.str a), .fr (.str b)] => (b.length == 0) = false ∧ a.length + 2 ≤ sizeLine ∧ q (.ol (strsD (Txt.split a b)))
  | _ => False
theorem m1_split : M1Sim K (fun x xs H Q => ∃ a b, x = .str a ∧ xs = [.str b] ∧ (b.length == 0) = false ∧ a.length + 2 ≤ sizeLine ∧ rNewStrs (Txt.split a b) H Q) fSplit := fun F H o1 o2 x y S q Q e r h p => by
  unfold fSplit at h
  split at h
  · rename_i a b eo
    cases eo
    obtain ⟨S1, S2, r1, r2, _⟩ := owns_two r
    rw [own_str r1, own_str r2]
    exact ⟨a, b, rfl, rfl, h.1, h.2.1, fun l hl => rpost_newL p e (strs_owns _) (fun _ z => z.elim) hl h.2.2⟩
  · exact h.elim
@[simp] def fPart : OF := fun os q => match os with
  | [.fr (.str a), .fr (.str b)] => (b.length == 0) = false ∧ a.length ≤ sizeLine ∧ q (.ot (strsD [(Txt.partition a b).1, (Txt.partition a b).2.1, (Txt.partition a b).2.2]))
  | _ => False
theorem m1_part : M1Sim K (fun x xs H Q => ∃ a b, x = .str a ∧ xs = [.str b] ∧ (b.length == 0) = false ∧ a.length ≤ sizeLine ∧
    ∀ p, H p = none → Q (.ref p) (upd H p (.tup [.str (Txt.partition a b).1, .str (Txt.partition a b).2.1, .str (Txt.partition a b).2.2]))) fPart := fun F H o1 o2 x y S q Q e r h p => by
  unfold fPart at h
  split at h
  · rename_i a b eo
    cases eo
    obtain ⟨S1, S2, r1, r2, _⟩ := owns_two r
    rw [own_str r1, own_str r2]
    exact ⟨a, b, rfl, rfl, h.1, h.2.1, fun l hl => rpost_newT p e (strs_owns [(Txt.partition a b).1, (Txt.partition a b).2.1, (Txt.partition a b).2.2]) (fun _ z => z.elim) hl h.2.2⟩
  · exact h.elim
def strsO : List O → Option (List Str)
  | [] => some []
  | .fr (.str b) :: r => (strsO r).map (b :: ·)
  | _ :: _ => none
theorem strsO_ok : ∀ {os : List O} {vs : List V} {T : FP} {bs : List Str}, Owns K F H os vs T → strsO os = some bs → vs = bs.map V.str
  | [], vs, T, bs, h, e => by
    have h : vs = [] := h
    cases (show some ([] : List Str) = some bs from e)
    exact h
  | .fr (.str b) :: r, vs, T, bs, ⟨v, vs', S1, S2, ev, _, _, _, r1, r2⟩, e => by
    have e : (strsO r).map (b :: ·) = some bs := e
    cases e1 : strsO r with
    | none => rw [e1] at e; cases e
    | some bs' =>
      rw [e1] at e
      cases e
      rw [ev, own_str r1, strsO_ok r2 e1]
      rfl
@[simp] def fJoin : OF := fun os q => match os with
  | [.fr (.str a), o] => match lstO o with
    | some xs => match strsO xs with
      | some ys => (ys.map (·.length)).sum + ys.length * a.length ≤ 16777216 ∧ q (.fr (.str (Txt.join a ys)))
      | none => False
    | none => False
  | _ => False
theorem m1_join : M1Sim K (fun x xs H Q => ∃ a p, ∃ ys : List Str, x = .str a ∧ xs = [.ref p] ∧ (SqL K H p (ys.map V.str) ∨ SqT K H p (ys.map V.str)) ∧
      (ys.map (·.length)).sum + ys.length * a.length ≤ 16777216 ∧ Q (.str (Txt.join a ys)) H) fJoin := fun F H o1 o2 x y S q Q e r h p => by
  unfold fJoin at h
  split at h
  · rename_i a o eo
    cases eo
    obtain ⟨S1, S2, r1, r2, _⟩ := owns_two r
    split at h
    · rename_i xs ex
      split at h
      · rename_i ys ey
        obtain ⟨l, vs, rfl, h1, q1⟩ := lst_ok e r2 ex
        rw [strsO_ok q1 ey] at h1
        rw [own_str r1]
        exact ⟨a, l, ys, rfl, rfl, .inl h1, h.1, rpost_s p e scal_str h.2⟩
      · exact h.elim
    · exact h.elim
  · exact h.elim
/-! ### what is walked, further -/
def enumD (ds : List D) : List D := ds.zipIdx.map fun z => .tuple [.int (z.2 : Nat), z.1]
theorem dp_two {a b : V} {x y : D} {F : Hp} {t : Addr} (ht : F t = some (.tup [a, b])) (h1 : Dp K F a x) (h2 : Dp K F b y) : Dp K F (.ref t) (.tuple [x, y]) :=
  .tup (SqT.of ht) (.cons h1 (.cons h2 .nil))
theorem sim_enum {ta : TE} {t : ET} (h : Sim K W ta t) : SimI K W (iEnum K (tCons ta tNil)) (fun ρ q x => dItems t ρ (fun ds ρ1 => q (enumD ds) ρ1) x) := fun F H σ ρ S q x R st ht p px => by
  refine h F H σ ρ S _ _ _ st ht (fun o v ρ' F' H' T S' s1 r d stp n hq => ?_) px
  split at hq
  · rename_i ds
    cases (show Dp K F' v (.list ds) from r) with
    | lst hs ha =>
      rename_i a vs
      refine ⟨a, vs, rfl, s1.ex.l hs, p (enumD ds) (Ite K a) ρ' F' H' S' s1 (fun F1 H1 e1 e2 => ?_) stp (n.sub fun _ z => .inr z) hq⟩
      have h1 : SqL K H1 a vs := e2.l (e1.l hs)
      refine ⟨fun i d e => ?_, vs, h1, by rw [dps_len ha]; unfold enumD; simp⟩
      unfold enumD at e
      rw [List.getElem?_map, List.getElem?_zipIdx] at e
      cases ed : ds[i]? with
      | none => rw [ed] at e; cases e
      | some d0 =>
        rw [ed] at e
        have e' : PyData.tuple [.int ((0 + i : Nat) : Int), d0] = d := by simpa using e
        obtain ⟨v, hv, rv⟩ := dps_get ha ed
        refine ⟨⟨vs, v, h1, hv⟩, fun x H' ⟨t, y, ex, ht, eH, hy⟩ => ?_⟩
        subst ex eH
        have := hy vs h1
        rw [hv] at this
        cases this
        rw [Nat.zero_add] at e'
        subst e'
        exact ⟨_, ex_new e2, stp_newF e2 ht, dp_two upd_same (.int _) (dp_ex (e1.trans (Ex.new (e2.back ht))) rv)⟩
  · exact hq.elim
def zipD (xs ys : List D) : List D := (xs.zip ys).map fun z => .tuple [z.1, z.2]
@[simp] def dZip (a : AT) : IT := fun ρ q x => a ρ (fun os ρ1 => match os with
  | [.fr (.list xs), .fr (.list ys)] => q (zipD xs ys) ρ1
  | _ => False) x
theorem sim_zip {ta : TA} {a : AT} (h : SimA K W ta a) : SimI K W (iZip K ta) (dZip a) := fun F H σ ρ S q x R st ht p px => by
  refine h F H σ ρ S _ _ _ st ht (fun os vs ρ' F' H' T S' s1 r d stp n hq => ?_) px
  split at hq
  · rename_i xs ys
    obtain ⟨v, w, rfl, r'⟩ := owns_inv2 r
    obtain ⟨S1, S2, r1, r2, _⟩ := owns_two r'
    cases (show Dp K F' v (.list xs) from r1) with
    | lst hs ha =>
    cases (show Dp K F' w (.list ys) from r2) with
    | lst hs2 ha2 =>
      rename_i a vs b ws
      refine ⟨a, b, vs, ws, rfl, s1.ex.l hs, s1.ex.l hs2, p (zipD xs ys) (Itz K a b) ρ' F' H' S' s1 (fun F1 H1 e1 e2 => ?_) stp (n.sub fun _ z => .inr z) hq⟩
      have h1 : SqL K H1 a vs := e2.l (e1.l hs)
      have h2 : SqL K H1 b ws := e2.l (e1.l hs2)
      refine ⟨fun i d e => ?_, vs, ws, h1, h2, ?_⟩
      · unfold zipD at e
        rw [List.getElem?_map] at e
        cases ez : (xs.zip ys)[i]? with
        | none => rw [ez] at e; cases e
        | some z =>
          rw [ez] at e
          cases e
          obtain ⟨z1, z2⟩ := z
          have e12 := List.getElem?_zip_eq_some.mp ez
          obtain ⟨v, hv, rv⟩ := dps_get ha e12.1
          obtain ⟨w, hw, rw_⟩ := dps_get ha2 e12.2
          refine ⟨⟨vs, ws, v, w, h1, h2, hv, hw⟩, fun x H' ⟨t, y, y2, ex, ht, eH, hy, hy2⟩ => ?_⟩
          subst ex eH
          have q1 := hy vs h1
          have q2 := hy2 ws h2
          rw [hv] at q1
          rw [hw] at q2
          cases q1
          cases q2
          exact ⟨_, ex_new e2, stp_newF e2 ht, dp_two upd_same (dp_ex (e1.trans (Ex.new (e2.back ht))) rv) (dp_ex (e1.trans (Ex.new (e2.back ht))) rw_)⟩
      · unfold zipD
        rw [List.length_map, List.length_zip, dps_len ha, dps_len ha2]
        omega
  · exact hq.elim
@[simp] def dRev (t : ET) : IT := fun ρ q x => dItems t ρ (fun ds ρ1 => q ds.reverse ρ1) x
theorem sim_rev {ta : TE} {t : ET} (h : Sim K W ta t) : SimI K W (iRev K (tCons ta tNil)) (dRev t) := fun F H σ ρ S q x R st ht p px => by
  refine h F H σ ρ S _ _ _ st ht (fun o v ρ' F' H' T S' s1 r d stp n hq => ?_) px
  split at hq
  · rename_i ds
    cases (show Dp K F' v (.list ds) from r) with
    | lst hs ha =>
      rename_i a vs
      refine ⟨a, vs, rfl, s1.ex.l hs, p ds.reverse (Itv K a vs.length) ρ' F' H' S' s1 (fun F1 H1 e1 e2 => ?_) stp (n.sub fun _ z => .inr z) hq⟩
      have h1 : SqL K H1 a vs := e2.l (e1.l hs)
      refine ⟨fun i d e => ?_, by rw [List.length_reverse]; exact Nat.le_of_eq (dps_len ha)⟩
      have hl := dps_len ha
      have hi : i < ds.length := by
        have := (List.getElem?_eq_some_iff.mp e).1
        rwa [List.length_reverse] at this
      rw [List.getElem?_reverse hi] at e
      obtain ⟨v, hv, rv⟩ := dps_get ha e
      rw [← hl] at hv
      refine ⟨⟨by omega, vs, v, h1, hv⟩, fun x H' ⟨e3, hy⟩ => ?_⟩
      subst e3
      have := hy vs h1
      rw [hv] at this
      cases this
      exact ⟨F1, e2, Stp.refl, dp_ex e1 rv⟩
  · exact hq.elim
def signsD (z : Str) : List D := z.cps.toList.map fun c => .str ⟨#[c]⟩
@[simp] def dSigns (t : ET) : IT := fun ρ q x => t ρ (fun o ρ1 => match o with
  | .fr (.str z) => q (signsD z) ρ1
  | _ => False) x
theorem sim_signs {ta : TE} {t : ET} (h : Sim K W ta t) : SimI K W (iStr ta) (dSigns t) := fun F H σ ρ S q x R st ht p px => by
  refine h F H σ ρ S _ _ _ st ht (fun o v ρ' F' H' T S' s1 r d stp n hq => ?_) px
  split at hq
  · rename_i z
    rw [own_str r]
    refine ⟨z, rfl, p (signsD z) (Its z) ρ' F' H' S' s1 (fun F1 H1 e1 e2 => ⟨fun i d e => ?_, ?_⟩) stp (n.sub fun _ z => .inr z) hq⟩
    · unfold signsD at e
      rw [List.getElem?_map] at e
      cases ec : z.cps.toList[i]? with
      | none => rw [ec] at e; cases e
      | some c =>
        rw [ec] at e
        cases e
        have ec' : z.cps[i]? = some c := by rw [← ec]; simp
        refine ⟨show i < z.cps.size by have := (List.getElem?_eq_some_iff.mp ec).1; simpa using this, fun x H' ⟨eH, c', h1, h2⟩ => ?_⟩
        subst eH h2
        rw [ec'] at h1
        cases h1
        exact ⟨F1, e2, Stp.refl, .str _⟩
    · show z.cps.size ≤ _
      unfold signsD
      simp
  · exact hq.elim
def rngC (lo c : Int) (n : Nat) : List D := (List.range n).map fun (k : Nat) => PyData.int (lo + (k : Int) * c)
@[simp] def dRng3 (a : AT) : IT := fun ρ q x => a ρ (fun os ρ1 => match os with
  | [.fr (.int i), .fr (.int j), .fr (.int c)] => ∃ n, RgC i j c n ∧ q (rngC i c n) ρ1
  | _ => False) x
theorem sim_rng3 {ta : TA} {a : AT} (ha : SimA K W ta a) : SimI K W (iRng3 ta) (dRng3 a) := fun F H σ ρ S q x R st ht p px => by
  refine ha F H σ ρ S _ _ _ st ht (fun os vs ρ' F' H' T S' s1 r d stp n hq => ?_) px
  split at hq
  · rename_i i j c
    obtain ⟨v, vs', A, B, ev, _, _, _, r1, r2⟩ := r
    subst ev
    obtain ⟨x', y, rfl, r'⟩ := owns_inv2 r2
    obtain ⟨S1, S2, r3, r4, _⟩ := owns_two r'
    rw [own_int r1, own_int r3, own_int r4]
    obtain ⟨m, h1, h2⟩ := hq
    refine ⟨i, j, c, m, rfl, h1, p _ _ ρ' F' H' S' s1 (fun F1 H1 e1 e2 => ⟨fun k d e => ?_, by simp [Itc, rngC]⟩) stp (n.sub fun _ z => .inr z) h2⟩
    unfold rngC at e
    rw [List.getElem?_map] at e
    by_cases hi : k < m
    · rw [List.getElem?_range hi] at e
      have e' : PyData.int (i + (k : Int) * c) = d := by simpa using e
      refine ⟨hi, fun x H' ⟨a, b⟩ => ?_⟩
      subst a b e'
      exact ⟨F1, e2, Stp.refl, .int _⟩
    · have : (List.range m)[k]? = none := by simp; omega
      rw [this] at e
      cases e
  · exact hq.elim
end
end DL
set_option Elab.async false
set_option linter.all false
set_option maxRecDepth 100000
set_option maxHeartbeats 4000000
/-! list(reversed(xs)) over a list. -/
namespace DL
open PySem PySem.Spec PyProof.Rows L2 RT
section
variable {prog : Program} {w : World} {A : Around} {E : Value → Shared → Prop} {s : Shared}
theorem init_revL {R : Result → Shared → Prop} {it l : Addr} {items : Array Value} (hh : A.handled = none) (hit : s.heap.IsRevIter it l ((items.size : Int) - 1)) (hl : s.heap.IsList l items) (hne : l ≠ it) (hn : items.size ≤ sizeLine)
    (S : Addr) (hS : s.heap.get? S = some { cls := .type "list", data := .seq #[] }) (hSi : S ≠ it) (hSl : S ≠ l)
    (hR : ∀ h' tk acc' c', (∀ b o, b ≠ S → b ≠ it → s.heap.get? b = some o → h'.get? b = some o) → h'.get? S = some { cls := .type "list", dict := none, data := .seq acc' c', slots := #[] } →
      ItemsOf (fun i v => items[items.size - 1 - i]? = some v) acc' items.size → R (.ok (.ret .none)) { s with heap := h', toks := tk }) :
    wpAny (model prog w) A.in1 (Builtin.«list.__init__» ⟨[.ref S, .ref it], []⟩)
      (fun fin s' => match fin with | .done f => R (.ok f) s' | .again c' => c'.quiet = true ∧ codeAny (model prog w) A c' R s') (fun e s' => R (.error e) s') s := by
  have W := (Walks.listRev (prog := prog) (w := w) (A := A.in1) hh it l hne items).toS
  have nf : S ∉ [it, l] := fun z => (List.mem_cons.mp z).elim hSi fun y => hSl (List.mem_singleton.mp y)
  show wpAny _ _ (Builtin.List.listItems (.ref S) >>= fun old => Builtin.List.listUpdate (.ref S) (fun _ => #[]) >>= fun _ => letGo old.toList.reverse >>= fun _ => Builtin.List.listExtendWith (.ref S) (.ref it) .none) _ _ s
  refine wpAny_bind ?_
  unfold Builtin.List.listItems
  refine wpAny_bind (wpAny_seqItems hS rfl (wpAny_pure ?_))
  show wpAny _ _ (updateSeq S (fun _ => #[]) >>= _) _ _ _
  refine wpAny_bind (wpAny_updateSeq hS rfl (wpAny_bind (wpAny_letGo ?_)))
  have hS2 := Heap.get?_update_self (Obj.mapSeq (fun _ => (#[] : Array Value))) hS rfl
  have oth : ∀ b o, b ≠ S → s.heap.get? b = some o → (s.heap.update S (Obj.mapSeq (fun _ => (#[] : Array Value)))).get? b = some o := fun b o hb e => (Heap.get?_update_other _ _ (Ne.symm hb)).trans e
  generalize s.heap.update S (Obj.mapSeq (fun _ => (#[] : Array Value))) = g at hS2 oth ⊢
  have hit2 : g.IsRevIter it l ((items.size : Int) - 1) := hit.at fun o e => oth it o (Ne.symm hSi) e
  have hl2 : g.IsList l items := by
    obtain ⟨o, e, r⟩ := hl
    exact ⟨o, oth l o (Ne.symm hSl) e, r⟩
  have hT : ({ s with heap := g } : Shared).TypeIs (.ref it) "list_reverseiterator" := Heap.IsRevIter.typeIs (s := { s with heap := g }) hit2
  have h1 : Builtin.List.listSameRef (.ref S) (.ref it) = false := by simp [Builtin.List.listSameRef, hSi]
  unfold Builtin.List.listExtendWith
  refine wpAny_bind (wpAny_typeOf hT (?_ : wpAny _ _ (if _ then _ else _) _ _ _))
  rw [if_neg (by rw [h1]; decide)]
  refine wpAny_bind (wpAny_pyIter_revIter (s := { s with heap := g }) hit2 (wpAny_bind (wpAny_holding ?_)))
  unfold Builtin.List.listLengthHint
  refine wpAny_bind (wpAny_specialOf hT nolen_lri ?_)
  show wpAny _ A.in1 (specialOf (Value.ref it) (Str.ofString "__length_hint__") >>= _) _ _ _
  refine wpAny_bind (wpAny_specialOf hT hint_lri ?_)
  generalize hid : ("list_reverseiterator.__length_hint__" : String) = id0
  wp_delta
  rw [show splitId id0 = some ("list_reverseiterator", "__length_hint__") from by subst hid; decide +kernel]
  subst hid
  refine wpAny_bind (wpAny_isInstance (b := true) hT (by rw [isSubtype_type]; kernel_rfl) (wpAny_pure ?_))
  rw [if_neg (by decide)]
  have e0 : (items.size : Int) - 1 - ((0 : Nat) : Int) = (items.size : Int) - 1 := by omega
  refine wpAny_pure ⟨plainId_quiet F.plain_extend_loop _, codeAny_extend_loopS W hn S nf _ items.size 0 _ _ _ rfl (Nat.zero_le _) ⟨Nat.zero_le _, by rw [e0]; exact hit2, hl2⟩ hS2 (ItemsOf.nil _) fun s' acc' c' hm hS' hacc => ?_⟩
  rw [Moved.eq_with hm]
  refine hR s'.heap s'.toks acc' c' (fun b o hb hb2 e => hm.heap b o (fun hmem => ?_) (oth b o hb e)) hS' hacc
  exact (List.mem_cons.mp hmem).elim hb fun y => hb2 (List.mem_singleton.mp y)
theorem call_list_revL {it l : Addr} {items : Array Value} {Q : Value → Shared → Prop} (hh : A.handled = none) (hit : s.heap.IsRevIter it l ((items.size : Int) - 1)) (hl : s.heap.IsList l items) (hne : l ≠ it) (hn : items.size ≤ sizeLine)
    (hQ : ∀ h' tk acc' c', (∀ b o, b ≠ it → s.heap.get? b = some o → h'.get? b = some o) → h'.get? s.heap.objs.size = some { cls := .type "list", dict := none, data := .seq acc' c', slots := #[] } →
      ItemsOf (fun i v => items[items.size - 1 - i]? = some v) acc' items.size → Q (.ref s.heap.objs.size) { s with heap := h', toks := tk }) :
    wpAny (model prog w) A (call (.type "list") [.ref it]) Q E s := by
  obtain ⟨oi, hoi, _⟩ := id hit
  obtain ⟨ol, hol, _⟩ := id hl
  refine callType_codes (Q₁ := fun obj s₁ => obj = .ref s.heap.objs.size ∧ s₁ = { s with heap := s.heap.push { cls := .type "list", data := .seq #[] } }) F.called_list (F.typeCall_list_1 _) F.entry_list_init (code_list_new _ ⟨rfl, rfl⟩) fun obj s1 h1 => ?_
  obtain ⟨rfl, rfl⟩ := h1
  have hS : (s.heap.push { cls := .type "list", data := .seq #[] }).get? s.heap.objs.size = some { cls := .type "list", data := .seq #[] } := Heap.get?_push_size _ rfl
  refine ⟨⟨_, hS, rfl⟩, F.args_list_init_2 _ _, init_revL (A := A.in1) hh (hit.at fun o e => Heap.get?_push_of_some _ e) (hl.push _) hne hn _ hS (Nat.ne_of_gt (Heap.lt_size hoi)) (Nat.ne_of_gt (Heap.lt_size hol)) fun h' tk acc' c' hk hS' hacc => ?_⟩
  exact ⟨rfl, hQ h' tk acc' c' (fun b o hb e => hk b o (Nat.ne_of_lt (Heap.lt_size e)) hb (Heap.get?_push_of_some _ e)) hS' hacc⟩
end
end DL
set_option Elab.async false
set_option linter.all false
set_option maxRecDepth 100000
set_option maxHeartbeats 4000000
namespace DL
open PySem PySem.Spec PyProof.Rows L2
section
variable {X : Cx}
/-- list(reversed(e)), e a list -/
theorem pe_lstRev {e : Expr} {te : TE} {p p2 pos pos2 : Pos} (hc : X.calm = true) (hg : Gl X "list") (hm : X.mg "list" = none) (hg2 : Gl X "reversed") (hm2 : X.mg "reversed" = none) (he : PE X e te)
    (hs : starEach [e] X.env = (false, eval e X.env) :: starEach [] X.env := by rfl)
    (hs2 : starEach [.Call (.Name "reversed" p2) [e] [] pos2] X.env = (false, eval (.Call (.Name "reversed" p2) [e] [] pos2) X.env) :: starEach [] X.env := by rfl) :
    PE X (.Call (.Name "list" p) [.Call (.Name "reversed" p2) [e] [] pos2] [] pos) (tLstRev X.K te) := by
  refine ⟨fun pins s σ H Q I h => ?_⟩
  refine Call_ (ld_blt I hg hm boot_list (PyProof.Rows.callWith_type1 (PyProof.Rows.args_cons (Call_ (ld_blt I hg2 hm2 PyProof.Rows.boot_reversed (PyProof.Rows.callWith_type1
    (PyProof.Rows.args_cons (thn (he.run pins s σ H _ I h) fun u s1 ⟨v, H1, I1, r1, q1⟩ => PyProof.Rows.args_nil ?_) hs) hs rfl))) hs2) hs2 rfl))
  obtain ⟨a, xs, ev, hq, q⟩ := q1
  subst ev
  obtain rfl : u = Value.ref a := r1
  obtain ⟨its, rv, p', hz⟩ := I1.list hq
  refine call_reversed_list p'.isList (PyProof.Rows.args_nil ?_)
  have I2 : Inv X pins σ H1 { s1 with heap := s1.heap.push (revObj a ((its.toArray.size : Int) - 1)) } := I1.kept (t' := s1.toks) fun b o e => Heap.get?_push_of_some _ e
  obtain ⟨f0, f1, f2, f3, f4, f5⟩ := I1.fpOk (H' := H1) (b := s1.heap.objs.size) (Nat.le_refl _) (I1.hok.fresh (Nat.le_refl _))
  have hl := p'.isList
  obtain ⟨ol, hol, _⟩ := id hl
  have hne : a ≠ s1.heap.objs.size := Nat.ne_of_lt (Heap.lt_size hol)
  have hn : its.toArray.size ≤ sizeLine := by rw [List.size_toArray, ← rv.length]; exact hz
  refine call_list_revL (s := { s1 with heap := s1.heap.push (revObj a ((its.toArray.size : Int) - 1)) }) (I1.ok.hd hc) ⟨_, Heap.get?_push_size _ rfl, rfl, rfl⟩ (hl.push _) hne hn fun h' tk acc c' hk hS hi => ?_
  have k : ∀ b o, s1.heap.get? b = some o → h'.get? b = some o := fun b o e => hk b o (Nat.ne_of_lt (Heap.lt_size e)) (Heap.get?_push_of_some _ e)
  have le : s1.heap.objs.size ≤ (s1.heap.push (revObj a ((its.toArray.size : Int) - 1))).objs.size := by rw [Heap.size_push]; exact Nat.le_succ _
  have hnew : H1 (s1.heap.push (revObj a ((its.toArray.size : Int) - 1))).objs.size = none := I1.hok.fresh le
  exact ⟨.ref _, upd H1 _ (.lst xs.reverse), I1.laid (t' := tk) k le ⟨by rw [List.length_reverse]; exact hz, acc.toList, c', RT.vals_rev rv hi, by rw [Array.toArray_toList]; exact hS⟩, rfl, q _ hnew⟩
end
section
variable {K : PySem.W.Frag} {F H F1 H1 F2 H2 F' H' : Hp} {S S1 S2 T U : FP} {σ σ' : L2.St} {ρ ρ' : Env} {W : XK} {kp : List Nat}
/-! ### methods that change an owned thing -/
abbrev MF := O → List O → (O → O → Prop) → Prop
def MSim (K : PySem.W.Frag) (r : V → List V → Hp → VK → Prop) (f : MF) : Prop :=
  ∀ F H o os v vs T U q Q, Ex F H → Own K F H o v T → Owns K F H os vs U → Dj T U → f o os q →
    (∀ res o' w F' H' A B, Ex F' H' → Own K F' H' res w A → Own K F' H' o' v B → Dj A B → Stp F H (Un2 T U) F' H' → Fresh H (Un2 T U) (Un2 A B) → q res o' → Q w H') → r v vs H Q
@[simp] def isOl : O → Bool
  | .ol _ => true
  | _ => false
/-- x.m(..), x the slot i, an owned list -/
@[simp] def dMutL (i : Nat) (f : MF) (a : AT) : ET := fun ρ q x => match ρ[i]? with
  | some (some o0) => isOl o0 = true ∧ a ρ (fun os ρ1 => match ρ1[i]? with
    | some (some o) => f o os fun r o' => q r (ρ1.set i (some o'))
    | _ => False) x
  | _ => False
theorem ty_ol {o : O} {v : V} (h : isOl o = true) (r : Own K F H o v T) : tyV K "list" v H := by
  cases o with
  | ol os => obtain ⟨p, vs, U, ev, a, b, c, _⟩ := r; subst ev; exact .inl ⟨rfl, _, SqL.of c⟩
  | fr _ => cases h
  | ot _ => cases h
  | od _ _ => cases h
  | oi _ _ _ => cases h
  | ox _ _ => cases h
theorem mut_core {i : Nat} {r : V → List V → Hp → VK → Prop} {f : MF} {ta : TA} {a : AT} (hr : MSim K r f) (ha : SimA K W ta a) {q : O → Env → Prop} {x : XP} {Q : VK} {v : V} (st : ST K F H σ ρ S) (hv : σ[i]? = some (some v))
    (h : a ρ (fun os ρ1 => match ρ1[i]? with
    | some (some o) => f o os fun r o' => q r (ρ1.set i (some o'))
    | _ => False) x) (p : PostE K F H σ S q Q) (px : PostX K F H σ S x W) : ta σ H fun xs H2 => r v xs H2 Q := by
  refine ha F H σ ρ S _ x _ st h (fun os vs ρ1 F1 H1 T1 S1 s1 r1 d1 st1 n1 h1 => ?_) px
  split at h1
  · rename_i o eo
    obtain ⟨v', A, B, hv', a1, b1, c1, ro, sl⟩ := s1.sl.take eo
    rw [hv] at hv'
    cases hv'
    refine hr F1 H1 o os v vs A T1 _ Q s1.ex ro r1 (fun y z w => d1 y w (a1 y z)) h1 fun res o' w F2 H2 A2 B2 e2 r2 ro2 dj st2 n2 hq => ?_
    have dB : Dj B (Un2 A T1) := fun y z w => w.elim (fun u => c1 y u z) fun u => d1 y u (b1 y z)
    obtain ⟨sl2, dj2⟩ := holdS sl dB st2 n2
    have sl3 := sl2.putK hv ro2 fun y z w => dj2 y w (.inr z)
    rw [List.set_set] at sl3
    have nAll : Fresh H S (Un2 (Un2 A T1) B) := fun y z => z.elim (fun u => u.elim (fun t => n1 y (.inr (a1 y t))) fun t => n1 y (.inl t)) fun t => n1 y (.inr (b1 y t))
    have st2' : Stp F1 H1 (Un2 (Un2 A T1) B) F2 H2 := st2.mono fun _ z => .inl z
    refine p res w _ F2 H2 A2 _ ⟨e2, sl3⟩ r2 (fun y z u => u.elim (dj y z) fun t => dj2 y t (.inl z)) (st1.trans nAll st2') ?_ hq
    intro y z
    rcases z with z | z | z
    · exact Fresh.trans st1 nAll (n2.mono fun _ u => .inl u) y (.inl z)
    · exact Fresh.trans st1 nAll (n2.mono fun _ u => .inl u) y (.inr z)
    · exact n1 y (.inr (b1 y z.1))
  · exact h1.elim
theorem sim_mutL {i : Nat} {r : V → List V → Hp → VK → Prop} {f : MF} {ta : TA} {a : AT} (hr : MSim K r f) (ha : SimA K W ta a) : Sim K W (tBM K "list" r (tVar i) ta) (dMutL i f a) := fun F H σ ρ S q x Q st h p px => by
  unfold dMutL at h
  split at h
  · rename_i o0 e0
    obtain ⟨ho, h⟩ := h
    obtain ⟨v, A, B, hv, a1, b1, c1, ro, sl⟩ := st.sl.take e0
    refine ⟨v, hv, ty_ol ho ro, ?_⟩
    exact mut_core hr ha st hv h p px
  · exact h.elim
theorem sim_mutL0 {i : Nat} {r : V → List V → Hp → VK → Prop} {f : MF} (hr : MSim K r f) : Sim K W (tBM0 K "list" r (tVar i)) (dMutL i f dNil) := fun F H σ ρ S q x Q st h p px => by
  unfold dMutL at h
  split at h
  · rename_i o0 e0
    obtain ⟨ho, h⟩ := h
    obtain ⟨v, A, B, hv, a1, b1, c1, ro, sl⟩ := st.sl.take e0
    refine ⟨v, hv, ty_ol ho ro, ?_⟩
    exact mut_core hr (sim_nil (W := W)) st hv h p px
  · exact h.elim
@[simp] def mAppend : MF := fun o os q => match o, os with
  | .ol xs, [y] => xs.length < sizeLine ∧ q (.fr .none) (.ol (xs ++ [y]))
  | _, _ => False
theorem ms_append : MSim K rAppend mAppend := fun F H o os v vs T U q Q e ro rs dj h p => by
  unfold mAppend at h
  split at h
  · rename_i xs y
    obtain ⟨w, rfl, ry⟩ := owns_inv1 rs
    obtain ⟨l, us, A, rfl, a, b, c, d, f, g⟩ := ro
    refine ⟨l, us, w, rfl, rfl, c, by rw [owns_len g]; exact h.1, ?_⟩
    have stl : Stp F H (fun z => z = l) F (upd H l (.lst (us ++ [w]))) := stp_set b
    have g' := Owns.step stl (fun z u e => f (e ▸ u)) g
    have ry' := Own.step stl (fun z u e => dj l a (e ▸ u)) ry
    refine p (.fr .none) (.ol (xs ++ [y])) .non F _ (fun _ => False) (Un2 T U) (ex_set e b) (scal_non F) ?_ (fun _ z => z.elim) (stl.mono fun z u => .inl (u ▸ a)) (fun z u => u.elim (fun y => y.elim) .inl) h.2
    exact ⟨l, us ++ [w], Un2 A U, rfl, .inl a, b, upd_same, fun z u => u.imp (d z) id, fun u => u.elim f (fun y => dj l a y), owns_snoc g' ry' fun z u y => dj z (d z u) y⟩
  · exact h.elim
@[simp] def mClear : MF := fun o os q => match o, os with
  | .ol _, [] => q (.fr .none) (.ol [])
  | _, _ => False
theorem ms_clear : MSim K rClear mClear := fun F H o os v vs T U q Q e ro rs dj h p => by
  unfold mClear at h
  split at h
  · rename_i xs
    have rs : vs = [] := rs
    subst rs
    obtain ⟨l, us, A, rfl, a, b, c, d, f, g⟩ := ro
    refine ⟨l, us, rfl, rfl, c, ?_⟩
    have stl : Stp F H (fun z => z = l) F (upd H l (.lst [])) := stp_set b
    exact p (.fr .none) (.ol []) .non F _ (fun _ => False) T (ex_set e b) (scal_non F) ⟨l, [], fun _ => False, rfl, a, b, upd_same, fun _ z => z.elim, fun z => z, rfl⟩ (fun _ z => z.elim) (stl.mono fun z u => .inl (u ▸ a)) (fun z u => u.elim (fun y => y.elim) fun y => .inl (.inl y)) h
  · exact h.elim
/-! ### x[k] = v, x the slot i, an owned list -/
theorem owns_set : ∀ {os : List O} {vs : List V} {T1 T2 : FP} {o : O} {v : V} (j : Nat), Owns K F H os vs T1 → Own K F H o v T2 → Dj T1 T2 → Owns K F H (os.set j o) (vs.set j v) (Un2 T1 T2)
  | [], vs, T1, T2, o, v, j, h, r, d => by
    have h : vs = [] := h
    subst h
    exact rfl
  | o' :: os, vs, T1, T2, o, v, 0, ⟨v', vs', A, B, e, a, b, c, r1, r2⟩, r, d => by
    subst e
    exact ⟨v, vs', T2, B, rfl, fun _ z => .inr z, fun x y => .inl (b x y), fun x y z => d x (b x z) y, r, r2⟩
  | o' :: os, vs, T1, T2, o, v, j + 1, ⟨v', vs', A, B, e, a, b, c, r1, r2⟩, r, d => by
    subst e
    exact ⟨v', vs'.set j v, A, Un2 B T2, rfl, fun x y => .inl (a x y), fun x y => y.imp (b x) id, fun x y z => z.elim (c x y) (d x (a x y)), r1, owns_set j r2 r fun x y => d x (b x y)⟩
@[simp] def dSetI (i : Nat) (a : ET) : GT := fun o ρ q => match ρ[i]? with
  | some (some _) => a ρ (fun oi ρ1 => match oi, ρ1[i]? with
    | .fr (.int k), some (some (.ol os)) => match ixN os.length k with
      | some j => q (ρ1.set i (some (.ol (os.set j o))))
      | none => False
    | _, _ => False) (fun _ _ => False)
  | _ => False
theorem simg_setI {i : Nat} {ti : TE} {a : ET} (ha : Sim K E0 ti a) : SimG K kp (gSub (tVar i) ti rSetL) (dSetI i a) := fun F H σ ρ S o v T q Q st r d h p => by
  unfold dSetI at h
  split at h
  · rename_i o0 e0
    obtain ⟨l0, A, B, hv, _⟩ := st.sl.take e0
    refine ⟨l0, hv, ?_⟩
    refine ha F H σ ρ S _ _ _ st h (fun oi vi ρ1 F1 H1 T1 S1 s1 r1 d1 st1 n1 h1 => ?_) (fun _ _ _ _ _ _ _ _ _ _ _ z => z.elim)
    obtain ⟨q1, q2⟩ := hold r d st1 n1
    split at h1
    · rename_i k os eo
      split at h1
      · rename_i j ej
        rw [own_int r1]
        obtain ⟨v', A, B, hv', a1, b1, c1, ro, sl⟩ := s1.sl.take eo
        rw [hv] at hv'
        cases hv'
        obtain ⟨l, us, A', rfl, la, lb, lc, ld, lf, lg⟩ := ro
        refine ⟨l, us, k, j, rfl, rfl, lc, by rw [owns_len lg]; exact ej, ?_⟩
        have stl : Stp F1 H1 (fun z => z = l) F1 (upd H1 l (.lst (us.set j v))) := stp_set lb
        have g' := Owns.step stl (fun z u e => lf (e ▸ u)) lg
        have nl : ¬ Tg H T l := fun z => q2 l z (.inr (a1 l la))
        have q1' := Own.step stl (fun z u e => nl (e ▸ u)) q1
        have nB : ∀ z, B z → ¬ z = l := fun z u e => c1 l la (e ▸ u)
        have sl' := Slots.step stl nB sl
        have dA : Dj A' (Tg H T) := fun z u w => q2 z w (.inr (a1 z (ld z u)))
        have ro' : Own K F1 (upd H1 l (.lst (us.set j v))) (.ol (os.set j o)) (.ref l) (Un2 A (Tg H T)) :=
          ⟨l, us.set j v, Un2 A' (Tg H T), rfl, .inl la, lb, upd_same, fun z u => u.imp (ld z) id, fun u => u.elim lf nl, owns_set j g' q1' dA⟩
        have sl3 := sl'.putK hv ro' fun z u w => u.elim (fun t => c1 z t w) fun t => q2 z t (.inr (b1 z w))
        rw [List.set_set] at sl3
        have n2 : Fresh H (Un2 T S) (Un2 (Tg H T) S1) := fun z u => u.elim (fun t => .inl (.inl t.1)) fun t => (n1 z (.inr t)).imp .inr id
        have st1' : Stp F H (Un2 T S) F1 H1 := st1.mono fun _ z => .inr z
        refine p σ _ F1 _ _ ⟨ex_set s1.ex lb, sl3⟩ (st1'.trans n2 (stl.mono fun z u => .inr (a1 z (u ▸ la)))) (fun z u => ?_) Keep.refl rfl h1
        rcases u with (u | u) | u
        · exact n2 z (.inr (a1 z u))
        · exact .inl (.inl u.1)
        · exact n2 z (.inr (b1 z u))
      · exact h1.elim
    · exact h1.elim
  · exact h.elim
/-! ### x[k].m(..), x the slot i, an owned list or tuple of owned lists -/
@[simp] def tupSet (o : O) (j : Nat) (o' : O) : O := match o with
  | .ol os => .ol (os.set j o')
  | .ot os => .ot (os.set j o')
  | o => o
@[simp] def kidsO : O → Option (List O)
  | .ol os => some os
  | .ot os => some os
  | _ => none
@[simp] def dMutP (i : Nat) (a : ET) (f : MF) (b : AT) : ET := fun ρ q x => match ρ[i]? with
  | some (some _) => a ρ (fun oi ρ1 => match oi, ρ1[i]? with
    | .fr (.int k), some (some c) => match kidsO c with
      | some os => match ixN os.length k with
        | some j => match os[j]? with
          | some o => isOl o = true ∧ b (ρ1.set i none) (fun ys ρ2 => f o ys fun r o' => q r (ρ2.set i (some (tupSet c j o')))) x
          | none => False
        | none => False
      | none => False
    | _, _ => False) x
  | _ => False
theorem owns_pick : ∀ {os : List O} {vs : List V} {T : FP} {j : Nat} {o : O}, Owns K F H os vs T → os[j]? = some o → ∃ v A B, vs[j]? = some v ∧ Own K F H o v A ∧ (∀ z, A z → T z) ∧ (∀ z, B z → T z) ∧ Dj A B ∧
    (∀ {F' H' : Hp} {S : FP} {o' : O} {A' : FP}, Stp F H S F' H' → (∀ z, B z → ¬ S z) → Own K F' H' o' v A' → Dj A' B → Owns K F' H' (os.set j o') vs (Un2 A' B))
  | [], _, _, _, _, _, h => by simp at h
  | o' :: os, vs, T, 0, o, ⟨v, vs', A, B, e, a, b, c, r1, r2⟩, h => by
    have h : o' = o := by simpa using h
    subst h e
    exact ⟨v, A, B, rfl, r1, a, b, c, fun {F' H' S o'' A'} st hs r d => ⟨v, vs', A', B, rfl, fun _ z => .inl z, fun _ z => .inr z, d, r, Owns.step st hs r2⟩⟩
  | o' :: os, vs, T, j + 1, o, ⟨v, vs', A, B, e, a, b, c, r1, r2⟩, h => by
    subst e
    obtain ⟨w, C, D, h1, h2, h3, h4, h5, h6⟩ := owns_pick (j := j) r2 (by simpa using h)
    refine ⟨w, C, Un2 A D, by simpa using h1, h2, fun z y => b z (h3 z y), fun z y => y.elim (a z) fun u => b z (h4 z u), fun z y u => u.elim (fun t => c z t (h3 z y)) (h5 z y), fun {F' H' S o'' A'} st hs r d => ?_⟩
    exact ⟨v, vs', A, Un2 A' D, rfl, fun _ z => .inr (.inl z), fun _ z => z.imp id .inr, fun z y u => u.elim (fun t => d z t (.inl y)) fun t => c z y (h4 z t), Own.step st (fun z y => hs z (.inl y)) r1, h6 st (fun z y => hs z (.inr y)) r fun z y u => d z y (.inr u)⟩
/-- a cell with kids: its kid j changes -/
theorem own_pick {c : O} {v : V} {os : List O} {j : Nat} {o : O} (r : Own K F H c v T) (hc : kidsO c = some os) (hj : os[j]? = some o) : ∃ l us w A B, v = .ref l ∧ (H l = some (.lst us) ∨ H l = some (.tup us)) ∧ us[j]? = some w ∧ us.length = os.length ∧
    Own K F H o w A ∧ (∀ z, A z → T z) ∧ (∀ z, B z → T z) ∧ Dj A B ∧
    (∀ {F' H' : Hp} {S : FP} {o' : O} {A' : FP}, Stp F H S F' H' → (∀ z, B z → ¬ S z) → Own K F' H' o' w A' → Dj A' B → Own K F' H' (tupSet c j o') v (Un2 A' B)) := by
  cases c with
  | fr _ => cases hc
  | od _ _ => cases hc
  | oi _ _ _ => cases hc
  | ox _ _ => cases hc
  | ol xs =>
    cases hc
    obtain ⟨l, us, U, ev, a, b, c, d, f, g⟩ := r
    obtain ⟨w, A, B, h1, h2, h3, h4, h5, h6⟩ := owns_pick g hj
    refine ⟨l, us, w, A, Un2 B (fun z => z = l), ev, .inl c, h1, owns_len g, h2, fun z y => d z (h3 z y), fun z y => y.elim (fun u => d z (h4 z u)) fun u => u ▸ a, fun z y u => u.elim (h5 z y) fun t => f (t ▸ h3 z y), fun {F' H' S o' A'} st hs ro dj => ?_⟩
    have nl : ¬ S l := hs l (.inr rfl)
    refine ⟨l, us, Un2 A' B, ev, .inr (.inr rfl), st.fz l b (by rw [c]; simp) nl, st.fr l _ c nl, fun z y => y.imp id .inl, fun y => y.elim (fun u => dj l u (.inr rfl)) fun u => f (h4 l u), h6 st (fun z y => hs z (.inl y)) ro fun z y u => dj z y (.inl u)⟩
  | ot xs =>
    cases hc
    obtain ⟨l, us, U, ev, a, b, c, d, f, g⟩ := r
    obtain ⟨w, A, B, h1, h2, h3, h4, h5, h6⟩ := owns_pick g hj
    refine ⟨l, us, w, A, Un2 B (fun z => z = l), ev, .inr c, h1, owns_len g, h2, fun z y => d z (h3 z y), fun z y => y.elim (fun u => d z (h4 z u)) fun u => u ▸ a, fun z y u => u.elim (h5 z y) fun t => f (t ▸ h3 z y), fun {F' H' S o' A'} st hs ro dj => ?_⟩
    have nl : ¬ S l := hs l (.inr rfl)
    refine ⟨l, us, Un2 A' B, ev, .inr (.inr rfl), st.fz l b (by rw [c]; simp) nl, st.fr l _ c nl, fun z y => y.imp id .inl, fun y => y.elim (fun u => dj l u (.inr rfl)) fun u => f (h4 l u), h6 st (fun z y => hs z (.inl y)) ro fun z y u => dj z y (.inl u)⟩
theorem sim_mutP {i : Nat} {ti : TE} {a : ET} {r : V → List V → Hp → VK → Prop} {f : MF} {ta : TA} {b : AT} (hr : MSim K r f) (hi : Sim K W ti a) (ha : SimA K W ta b) : Sim K W (tBM K "list" r (tOp (rIx K) (tVar i) ti) ta) (dMutP i a f b) := fun F H σ ρ S q x Q st h p px => by
  unfold dMutP at h
  split at h
  · rename_i o0 e0
    obtain ⟨l0, _, _, hv, _⟩ := st.sl.take e0
    refine ⟨l0, hv, ?_⟩
    refine hi F H σ ρ S _ _ _ st h (fun oi vi ρ1 F1 H1 T1 S1 s1 r1 d1 st1 n1 h1 => ?_) px
    split at h1
    · rename_i k c ec
      split at h1
      · rename_i os eos
        split at h1
        · rename_i j ej
          split at h1
          · rename_i o eo
            obtain ⟨ho, h1⟩ := h1
            rw [own_int r1]
            obtain ⟨v', A, B, hv', a1, b1, c1, ro, sl⟩ := s1.sl.take ec
            rw [hv] at hv'
            cases hv'
            obtain ⟨l, us, w, C, D, rfl, hl, hw, hlen, rk, hC, hD, dCD, upk⟩ := own_pick ro.tight eos eo
            have hat : atI us k = some w := by unfold atI; rw [hlen, ej]; exact hw
            have nB : Fresh H S B := fun z y => n1 z (.inr (b1 z y))
            have go : tyV K "list" w H1 ∧ ta σ H1 fun xs H2 => r w xs H2 Q := by
              refine ⟨ty_ol ho rk, ?_⟩
              refine ha F1 H1 σ _ B _ x _ ⟨s1.ex, sl⟩ h1 (fun ys vs ρ2 F2 H2 T2 S2 s2 r2 d2 st2 n2 h2 => ?_) (px.after st1 nB)
              have dCB : Dj C B := fun z y u => c1 z (hC z y).1 u
              have rk2 : Own K F2 H2 o w C := Own.step st2 dCB rk
              have nC : ∀ z, C z → ¬ Un2 T2 S2 z := fun z y u => (n2 z u).elim (dCB z y) (hC z y).2
              have nD : ∀ z, D z → ¬ Un2 T2 S2 z := fun z y u => (n2 z u).elim (c1 z (hD z y).1) (hD z y).2
              refine hr F2 H2 o ys w vs C T2 _ Q s2.ex rk2 r2 (fun z y u => nC z y (.inl u)) h2 fun res o' wr F3 H3 A3 B3 e3 r3 ro3 dj3 st3 n3 hq => ?_
              have keepD : ∀ z, D z → H2 z ≠ none := fun z y => by
                cases e : H1 z with
                | none => exact absurd e (hD z y).2
                | some u => rw [st2.fr z u e (c1 z (hD z y).1)]; simp
              have nD3 : ∀ z, D z → ¬ Un2 A3 B3 z := fun z y u => (n3 z u).elim (fun t => t.elim (fun m => dCD z m y) fun m => nD z y (.inl m)) (keepD z y)
              have n12 : Fresh H1 (Un2 B C) (Un2 C (Un2 T2 S2)) := fun z y => y.elim (fun u => .inl (.inr u)) fun u => (n2 z u).imp .inl id
              have st13 : Stp F1 H1 (Un2 B C) F3 H3 := (st2.mono fun _ z => .inl z).trans n12 (st3.mono fun z y => y.elim .inl fun u => .inr (.inl u))
              have rc := upk st13 (fun z y u => u.elim (c1 z (hD z y).1) fun t => dCD z t y) ro3 fun z y u => nD3 z u (.inr y)
              have dS2 : Dj S2 (Un2 C T2) := fun z y u => u.elim (fun t => nC z t (.inr y)) fun t => d2 z t y
              obtain ⟨sl3, dj4⟩ := holdS s2.sl dS2 st3 n3
              have sl4 := sl3.putK hv rc fun z y u => y.elim (fun t => dj4 z u (.inr t)) fun t => nD z t (.inr u.1)
              have nAll : Fresh H S (Un2 (Un2 B C) D) := fun z y => y.elim (fun u => u.elim (nB z) fun t => n1 z (.inr (a1 z (hC z t).1))) fun t => n1 z (.inr (a1 z (hD z t).1))
              have n13 : Fresh H1 (Un2 B C) (Un2 A3 B3) := Fresh.trans (st2.mono fun _ z => .inl z) n12 (n3.mono fun z y => y.elim .inl fun u => .inr (.inl u))
              refine p res wr _ F3 H3 A3 _ ⟨e3, sl4⟩ r3 (fun z y u => u.elim (fun t => t.elim (dj3 z y) fun m => nD3 z m (.inl y)) fun t => dj4 z t (.inl y)) (st1.trans nAll (st13.mono fun _ z => .inl z)) (fun z y => ?_) hq
              have st13' : Stp F1 H1 (Un2 (Un2 B C) D) F3 H3 := st13.mono fun _ z => .inl z
              rcases y with y | (y | y) | y
              · exact Fresh.trans st1 nAll (n13.mono fun _ z => .inl z) z (.inl y)
              · exact Fresh.trans st1 nAll (n13.mono fun _ z => .inl z) z (.inr y)
              · exact nAll z (.inr y)
              · exact Fresh.trans st1 nAll ((n2.mono fun _ z => .inl z).mono fun _ z => .inl z) z (.inr y.1)
            rcases hl with hl | hl
            · exact .inl ⟨l, us, k, w, rfl, rfl, SqL.of hl, hat, go⟩
            · exact .inr (.inl ⟨l, us, k, w, rfl, rfl, SqT.of hl, hat, go⟩)
          · exact h1.elim
        · exact h1.elim
      · exact h1.elim
    · exact h1.elim
  · exact h.elim
end
end DL
set_option Elab.async false
set_option linter.all false
set_option maxRecDepth 100000
set_option maxHeartbeats 4000000
namespace DL
open PySem PySem.Spec PyProof.Rows L2
section
variable {K : PySem.W.Frag} {F H F1 H1 F2 H2 F' H' : Hp} {S S1 S2 T U : FP} {σ σ' : L2.St} {ρ ρ' : Env} {W : XK} {kp : List Nat}
/-- x[k], x an owned slot whose item there is frozen -/
@[simp] def dIxO (i : Nat) (a : ET) : ET := fun ρ q x => match ρ[i]? with
  | some (some o0) => a ρ (fun oi ρ1 => ρ1[i]? = some (some o0) ∧ match oi, kidsO o0 with
    | .fr (.int k), some os => match atI os k with
      | some (.fr d) => q (.fr d) ρ1
      | _ => False
    | _, _ => False) x
  | _ => False
theorem kids_ok (e : Ex F H) {c : O} {v : V} {os : List O} (r : Own K F H c v T) (hc : kidsO c = some os) : ∃ l us U, v = .ref l ∧ (SqL K H l us ∨ SqT K H l us) ∧ Owns K F H os us U := by
  cases c with
  | fr _ => cases hc
  | od _ _ => cases hc
  | oi _ _ _ => cases hc
  | ox _ _ => cases hc
  | ol xs =>
    cases hc
    obtain ⟨l, us, U, ev, a, b, c, d, f, g⟩ := r
    exact ⟨l, us, U, ev, .inl (SqL.of c), g⟩
  | ot xs =>
    cases hc
    obtain ⟨l, us, U, ev, a, b, c, d, f, g⟩ := r
    exact ⟨l, us, U, ev, .inr (SqT.of c), g⟩
theorem sim_ixO {i : Nat} {ti : TE} {a : ET} (ha : Sim K W ti a) : Sim K W (tOp (rIx K) (tVar i) ti) (dIxO i a) := fun F H σ ρ S q x Q st h p px => by
  unfold dIxO at h
  split at h
  · rename_i o0 e0
    obtain ⟨l0, _, _, hv, _⟩ := st.sl.take e0
    refine ⟨l0, hv, ?_⟩
    refine ha F H σ ρ S _ _ _ st h (fun oi vi ρ1 F1 H1 T1 S1 s1 r1 d1 st1 n1 h1 => ?_) px
    obtain ⟨e1, h1⟩ := h1
    split at h1
    · rename_i k os ek
      split at h1
      · rename_i d ed
        obtain ⟨v', A, B, hv', a1, b1, c1, ro, sl⟩ := s1.sl.take e1
        rw [hv] at hv'
        cases hv'
        rw [own_int r1]
        obtain ⟨l, us, U, rfl, hl, ru⟩ := kids_ok s1.ex ro ek
        obtain ⟨j, hj, hy⟩ := atI_len (owns_len ru) ed
        obtain ⟨w, hw, rw_⟩ := owns_get ru hj
        have fin : Q w H1 := p (.fr d) w ρ1 F1 H1 (fun _ => False) S1 s1 rw_ (fun _ z => z.elim) st1 (fun z y => y.elim (fun u => u.elim) fun u => n1 z (.inr u)) h1
        rcases hl with hl | hl
        · exact .inl ⟨l, us, k, w, rfl, rfl, hl, hy w hw, fin⟩
        · exact .inr (.inl ⟨l, us, k, w, rfl, rfl, hl, hy w hw, fin⟩)
      · exact h1.elim
    · exact h1.elim
  · exact h.elim
/-- -e -/
@[simp] def fNeg : OF := fun os q => match os with
  | [.fr (.int i)] => q (.fr (.int (-i)))
  | _ => False
theorem r1_neg : R1Sim K (rU fun i => .int (-i)) fNeg := fun F H o x S q Q e r h p => by
  unfold fNeg at h
  split at h
  · rename_i i eo
    cases eo
    rw [own_int (owns_one r)]
    exact ⟨i, rfl, rpost_s p e scal_int h⟩
  · exact h.elim
/-- x op= e of whole numbers, x a slot -/
@[simp] def dAugI (i : Nat) (g : Int → Int → Int) (t : ET) : DT := fun E ρ => match ρ[i]? with
  | some (some (.fr (.int a))) => t ρ (fun o ρ1 => match o with
    | .fr (.int b) => (i < ρ1.length ∧ E.nx (ρ1.set i (some (.fr (.int (g a b))))))
    | _ => False) E.xc
  | _ => False
theorem sims_augI {i : Nat} {g : Int → Int → Int} {te : TE} {t : ET} (hk : i ∉ kp) (h : Sim K W te t) : SimS K W kp (tAug i te (ipI g)) (dAugI i g t) := fun F H σ ρ S D E st ht p => by
  unfold dAugI at ht
  split at ht
  · rename_i a ea
    obtain ⟨v, hv, r⟩ := st.sl.fr ea
    cases r
    refine ⟨_, hv, ?_⟩
    refine h F H σ ρ S _ _ _ st ht (fun o v ρ' F' H' T S' s1 r d stp n hq => ?_) p.px
    split at hq
    · rename_i b
      rw [own_int r]
      refine ⟨a, b, rfl, rfl, ?_⟩
      refine p.nx (σ.set i (some (.int (g a b)))) _ F' H' (fun z => False ∨ S' z) ⟨s1.ex, s1.sl.put (o := .fr (.int (g a b))) (S1 := fun _ => False) hq.1 (scal_int F') fun _ z => z.elim⟩ stp (fun z y => y.elim (fun u => u.elim) fun u => n z (.inr u)) (fun j hj => ?_) hq.2
      rw [List.getElem?_set_ne]
      intro z
      exact hk (z ▸ hj)
    · exact hq.elim
  · exact ht.elim
end
abbrev gSub : OF := fI (fun _ _ => True) fun i j => .int (i - j)
abbrev gDiv : OF := fI CDivW fun i j => .int (i / j)
abbrev gMod : OF := fI (fun _ j => 0 < j) fun i j => .int (i % j)
abbrev gPow : OF := fI CPow fun i j => .int (i ^ j.toNat)
abbrev gShl : OF := fI CPow fun i j => .int (i * 2 ^ j.toNat)
abbrev gShr : OF := fI (fun _ j => 0 ≤ j) fun i j => .int (i / 2 ^ j.toNat)
abbrev gAnd : OF := fI (fun _ _ => True) fun i j => .int (Builtin.bitAnd i j)
abbrev cLt : OF := fI (fun _ _ => True) fun i j => .bool (decide (i < j))
abbrev cLe : OF := fI (fun _ _ => True) fun i j => .bool (decide (i ≤ j))
abbrev cGt : OF := fI (fun _ _ => True) fun i j => .bool (decide (j < i))
abbrev cGe : OF := fI (fun _ _ => True) fun i j => .bool (decide (j ≤ i))
@[simp] def dEnum (t : ET) : IT := fun ρ q x => dItems t ρ (fun ds ρ1 => q (enumD ds) ρ1) x
section
variable {K : PySem.W.Frag} {W : XK} {kp : List Nat}
/-- a slot is frozen from here on -/
@[simp] def dFzS (i : Nat) (t : DT) : DT := fun E ρ => match ρ[i]? with
  | some (some o) => flt o = true ∧ t E (ρ.set i (some (.fr (er o))))
  | _ => False
theorem sims_fz {i : Nat} {ts : TS} {t : DT} (h : SimS K W kp ts t) : SimS K W kp ts (dFzS i t) := fun F H σ ρ S D E st ht p => by
  unfold dFzS at ht
  split at ht
  · rename_i o eo
    obtain ⟨v, A, B, hv, a, b, c, ro, sl⟩ := st.sl.take eo
    have fD := Own.frzD (S := A) st.ex ht.1 (fun _ z => z) ro
    have hs : Stp F H A (frz F H A) H := stp_frz st.ex
    have sl2 := Slots.step hs (fun z y u => c z u y) sl
    have sl3 := sl2.putK (o := .fr (er o)) (S1 := fun _ => False) hv fD fun _ z => z.elim
    rw [List.set_set] at sl3
    refine h (frz F H A) H σ _ _ D E ⟨frz_ex2 st.ex, sl3⟩ ht.2 (p.after (hs.mono a) (fun z y => .inl (y.elim (fun u => u.elim) (b z))) Keep.refl)
  · exact ht.elim
end
/-! ### rules with the written part told -/
section
variable {X : Cx} (K : PySem.W.Frag)
theorem ixK (hK : X.K = K := by rfl) : IxR X (rIx K) := hK ▸ ix_seq
theorem eqK (hu : X.A.units + 65 < cLine) (hK : X.K = K := by rfl) : OpR X (compareOp .Eq) (rEqU K) := hK ▸ op_eqU hu
theorem neK (hu : X.A.units + 65 < cLine) (hK : X.K = K := by rfl) : OpR X (compareOp .NotEq) (rNeU K) := hK ▸ op_neU hu
theorem inK (hu : X.A.units + 65 < cLine) (hK : X.K = K := by rfl) : OpR X (compareOp .In) (rInU K) := hK ▸ op_inU hu
theorem niK (hu : X.A.units + 65 < cLine) (hK : X.K = K := by rfl) : OpR X (compareOp .NotIn) (rNiU K) := hK ▸ op_niU hu
theorem addK (hK : X.K = K := by rfl) : OpR X (binaryOp .Add) (rAddU K) := hK ▸ op_addU
theorem isiK_ (hK : X.K = K := by rfl) : CallR X (.builtin "isinstance") (rIsi K) := hK ▸ call_isi
theorem lenK (hK : X.K = K := by rfl) : CallR X (.builtin "len") (fun xs H Q => ∃ x n, xs = [x] ∧ LenV K x H n ∧ Q (.int (n : Nat)) H) := hK ▸ call_len
theorem allK (hc : X.calm = true) (hK : X.K = K := by rfl) : CallR X (.builtin "all") (rAll K) := hK ▸ cr_all hc
theorem listK (hK : X.K = K := by rfl) : CallR X (.type "list") (fun xs H Q => ∃ p ys, xs = [.ref p] ∧ (SqL K H p ys ∨ SqT K H p ys) ∧ ∀ l, H l = none → Q (.ref l) (upd H l (.lst ys))) := hK ▸ call_list_of
theorem slK (hK : X.K = K := by rfl) : SlR X (rSlL K) := hK ▸ sl_list
theorem joinK (hK : X.K = K := by rfl) : MtR X "str.join" (fun x xs H Q => ∃ a p, ∃ ys : List Str, x = .str a ∧ xs = [.ref p] ∧ (SqL K H p (ys.map V.str) ∨ SqT K H p (ys.map V.str)) ∧
    (ys.map (·.length)).sum + ys.length * a.length ≤ 16777216 ∧ Q (.str (Txt.join a ys)) H) := hK ▸ mt_join
theorem pe_joinK {o e : Expr} {to te : TE} {apos pos : Pos} (ho : PE X o to) (he : PE X e te) (hK : X.K = K := by rfl) (hs : starEach [e] X.env = [(false, eval e X.env)] := by rfl) (hbase : attributeBase o "join" X.env (eval o X.env) = eval o X.env := by rfl) (hline : (apos.endLine == pos.line) = true := by rfl) :
    PE X (.Call (.Attribute o "join" apos) [e] [] pos) (tM1 (fun x xs H Q => ∃ a p, ∃ ys : List Str, x = .str a ∧ xs = [.ref p] ∧ (SqL K H p (ys.map V.str) ∨ SqT K H p (ys.map V.str)) ∧
      (ys.map (·.length)).sum + ys.length * a.length ≤ 16777216 ∧ Q (.str (Txt.join a ys)) H) to te) := hK ▸ pe_join ho he hs hbase hline
theorem pi_listK {tg l : Expr} {tl : TE} (hl : PE X l tl) (hK : X.K = K := by rfl) : PI X tg l (iList K tl) := hK ▸ pi_list hl
theorem pi_tupK {tg l : Expr} {tl : TE} (hl : PE X l tl) (hK : X.K = K := by rfl) : PI X tg l (iTup K tl) := hK ▸ pi_tup hl
theorem pg_tupK {es : List Expr} {k : Nat} {t : TGs} {pos : Pos} (n : Nat) (hc : X.calm = true) (h : PGs X es t) (hK : X.K = K := by rfl) (hn : (assignEach es X.env).length = n := by rfl) (hst : (assignEach es X.env).findIdx? (·.1) = none := by rfl) : PG X (.Tuple es k pos) (gTup K n t) := hK ▸ pg_tup hc h hn hst
end
/-! ### isinstance: the answers -/
theorem isiAll {K : PySem.W.Frag} {n : String} (h : ∀ m ∈ ["NoneType", "bool", "int", "str", "list", "tuple", "dict"], kitB m n = some (isiB m n)) : IsiOk K n := fun o m e => kit_ty (h m (tyO_in e))
theorem isi_int {K : PySem.W.Frag} : IsiOk K "int" := isiAll (by decide +kernel)
theorem isi_bool {K : PySem.W.Frag} : IsiOk K "bool" := isiAll (by decide +kernel)
theorem isi_str {K : PySem.W.Frag} : IsiOk K "str" := isiAll (by decide +kernel)
theorem isi_list {K : PySem.W.Frag} : IsiOk K "list" := isiAll (by decide +kernel)
theorem isi_tuple {K : PySem.W.Frag} : IsiOk K "tuple" := isiAll (by decide +kernel)
/-! ### a def that may be called -/
structure FunD (K : PySem.W.Frag) (mg : Str → Option Value) (x : Str) (st : Stmt) (ps : List Str) : Prop where
  ex : ∃ f fd, Fun K x x st f fd ∧ Binds K fd ps [] ∧ mg x = some (.ref f)
structure Cal (P : Program) (w : World) (K : PySem.W.Frag) (mg : Str → Option Value) (base : Heap) (x : Str) (k n : Nat) (f_ : WF) : Prop where
  ex : ∃ f fd ps, FnOk P w K mg base CX0 k f fd ps (spO K n f_) ∧ mg x = some (.ref f) ∧ PySem.W.keepIn K (.ref f) = true ∧ Binds K fd ps []
section
variable {X : Cx} {x : Str} {k n : Nat} {f_ : WF} {e : Expr} {es : List Expr} {t : TA} {p pos : Pos}
theorem pe_cal (C : Cal X.prog X.w X.K X.mg X.base x k n f_) (hr : Room k X.A) (hg : Gl X x) (ha : PA X (e :: es) t) (hdb : (x == ("__debug__" : Str)) = false := by decide)
    (he : starEach (e :: es) X.env = (false, eval e X.env) :: starEach es X.env := by rfl) (hpl : (backTo pos (starEach es X.env)).any (·.1) = false := by rfl) :
    PE X (.Call (.Name x p) (e :: es) [] pos) (tCall (spO X.K n f_) [] E0 t) := by
  obtain ⟨f, fd, ps, F, hm, hk, hb⟩ := C.ex
  exact pe_call F hr hg hm hk hb .nil pass0 ha hdb he hpl
theorem pe_calK (K : PySem.W.Frag) (C : Cal X.prog X.w X.K X.mg X.base x k n f_) (hr : Room k X.A) (hg : Gl X x) (ha : PA X (e :: es) t) (hK : X.K = K := by rfl) (hdb : (x == ("__debug__" : Str)) = false := by decide)
    (he : starEach (e :: es) X.env = (false, eval e X.env) :: starEach es X.env := by rfl) (hpl : (backTo pos (starEach es X.env)).any (·.1) = false := by rfl) :
    PE X (.Call (.Name x p) (e :: es) [] pos) (tCall (spO K n f_) [] E0 t) := hK ▸ pe_cal C hr hg ha hdb he hpl
theorem pe_cal0 (C : Cal X.prog X.w X.K X.mg X.base x k n f_) (hr : Room k X.A) (hg : Gl X x) (hdb : (x == ("__debug__" : Str)) = false := by decide) :
    PE X (.Call (.Name x p) [] [] pos) (tCall (spO X.K n f_) [] E0 tNil) := by
  obtain ⟨f, fd, ps, F, hm, hk, hb⟩ := C.ex
  exact pe_call0 F hr hg hm hk hb .nil pass0 hdb
end
theorem Cal.mk1 {P : Program} {w : World} {K : PySem.W.Frag} {mg : Str → Option Value} {base : Heap} {x : Str} {st : Stmt} {ps N : List Str} {k n : Nat} {f_ : WF} (D : FunD K mg x st ps) (S : FnScope N ps (defScope st)) (hn : ps.length = n)
    (h : ∀ (f : Addr) (cdv : Value) (A : Around) (outer : List PySem.Env) (s : Shared) (H : Hp) (vs : List V) (Q : VK) (E : XK), Room k (A.deeper (envOfC x (defScope st) s.heap.objs.size f cdv)) → spO K n f_ vs H Q E →
      ∃ t, PSs (cxOf CX0 P w K mg base N x (defScope st) f cdv A outer s H E).nox (defBody st) t ∧ t { nx := fun _ H' => Q .non H', rt := Q } (L2.start N vs) H) : Cal P w K mg base x (k + 1) n f_ := by
  obtain ⟨f, fd, F, b, m⟩ := D.ex
  exact ⟨f, fd, ps, F.ok S (fun vs H Q E q => spO_len hn q) (fun cdv A outer s H vs Q E hr q => h f cdv A outer s H vs Q E hr q), m, F.kp, b⟩
theorem fn_mk1 {P : Program} {w : World} {K : PySem.W.Frag} {mg : Str → Option Value} {base : Heap} {x : Str} {st : Stmt} {ps N : List Str} {k n : Nat} {f_ : WF} {f0 : Addr} {fd0 : FuncData} (F : Fun K x x st f0 fd0) (S : FnScope N ps (defScope st)) (hn : ps.length = n)
    (h : ∀ (f : Addr) (cdv : Value) (A : Around) (outer : List PySem.Env) (s : Shared) (H : Hp) (vs : List V) (Q : VK) (E : XK), Room k (A.deeper (envOfC x (defScope st) s.heap.objs.size f cdv)) → spO K n f_ vs H Q E →
      ∃ t, PSs (cxOf CX0 P w K mg base N x (defScope st) f cdv A outer s H E).nox (defBody st) t ∧ t { nx := fun _ H' => Q .non H', rt := Q } (L2.start N vs) H) : FnOk P w K mg base CX0 (k + 1) f0 fd0 ps (spO K n f_) :=
  F.ok S (fun vs H Q E q => spO_len hn q) (fun cdv A outer s H vs Q E hr q => h f0 cdv A outer s H vs Q E hr q)
theorem e0_x {K : PySem.W.Frag} {n : Nat} {f_ : WF} {vs : List V} {H : Hp} {Q : VK} {E : XK} (hx : ∀ os q x, f_ os q x → f_ os q fun _ _ => False) (h : spO K n f_ vs H Q E) : spO K n f_ vs H Q E0 := by
  obtain ⟨F, os, S, q, x, a, b, c, d, e, f⟩ := h
  exact ⟨F, os, S, q, _, a, b, c, hx os q x d, e, fun _ _ _ _ _ _ _ _ _ _ _ _ z => z⟩
/-! ### what computes -/
@[simp] theorem bk0 {os : List O} {ρ : Env} : bk [] os ρ = ρ := by cases os <;> rfl
@[simp] theorem bk_vl {o : O} {as : List AR} {os : List O} {ρ : Env} : bk (.vl o :: as) os ρ = bk as os.tail ρ := by
  cases os with
  | nil =>
    rw [List.tail_nil]
    induction as with
    | nil => rfl
    | cons a as ih => cases a <;> rfl
  | cons o' os => rfl
@[simp] theorem bk_sl {i : Nat} {as : List AR} {o : O} {os : List O} {ρ : Env} : bk (.sl i :: as) (o :: os) ρ = bk as os (ρ.set i (some o)) := rfl
@[simp] theorem er_fr (d : D) : er (.fr d) = d := rfl
@[simp] theorem flt_fr (d : D) : flt (.fr d) = true := rfl
@[simp] theorem er_ol (os : List O) : er (.ol os) = .list (ers os) := rfl
@[simp] theorem er_ot (os : List O) : er (.ot os) = .tuple (ers os) := rfl
@[simp] theorem flt_ol (os : List O) : flt (.ol os) = flts os := rfl
@[simp] theorem flt_ot (os : List O) : flt (.ot os) = flts os := rfl
@[simp] theorem ers_nil : ers [] = [] := rfl
@[simp] theorem ers_cons (o : O) (os : List O) : ers (o :: os) = er o :: ers os := rfl
@[simp] theorem flts_nil : flts [] = true := rfl
@[simp] theorem flts_cons (o : O) (os : List O) : flts (o :: os) = (flt o && flts os) := rfl
@[simp] theorem ers_map (ds : List D) : ers (ds.map .fr) = ds := by
  induction ds with
  | nil => rfl
  | cons d ds ih => rw [List.map_cons, ers_cons, ih]; rfl
@[simp] theorem flts_map (ds : List D) : flts (ds.map .fr) = true := by
  induction ds with
  | nil => rfl
  | cons d ds ih => rw [List.map_cons, flts_cons, ih]; rfl
end DL
set_option Elab.async false
set_option linter.all false
set_option maxRecDepth 100000
set_option maxHeartbeats 4000000
/-! Laws of the data terms. -/
namespace DL
open PySem PySem.Spec PyProof.Rows L2
/-- one turn of a comprehension -/
@[simp] def stepLc (g : GT) (tt : BT) (te : ET) (vs : List Nat) (x : XP) (d : D) (ρ : Env) (k : Option O → Env → Prop) : Prop :=
  g (.fr d) (wipeE ρ vs) fun ρ2 => tt ρ2 (fun b ρ3 => if b = true then te ρ3 (fun o ρ4 => k (some o) (wipeE ρ4 vs)) x else k none (wipeE ρ3 vs)) x
theorem lcL_step {g : GT} {tt : BT} {te : ET} {vs : List Nat} {x : XP} {d : D} {ds : List D} {acc : List O} {ρ : Env} {q : O → Env → Prop} :
    dLcL g tt te vs x (d :: ds) acc ρ q = stepLc g tt te vs x d ρ fun r ρ' => match r with
      | some o => acc.length < sizeLine ∧ dLcL g tt te vs x ds (acc ++ [o]) ρ' q
      | none => dLcL g tt te vs x ds acc ρ' q := rfl
/-- a comprehension whose turns leave the environment -/
theorem lcL_filter {g : GT} {tt : BT} {te : ET} {vs : List Nat} {x : XP} {ρ : Env} {q : O → Env → Prop} (f : D → Option O) : ∀ (ds : List D) (acc : List O),
    (∀ d ∈ ds, ∀ k : Option O → Env → Prop, k (f d) ρ → stepLc g tt te vs x d ρ k) → acc.length + ds.length ≤ 16000000 → q (.ol (acc ++ ds.filterMap f)) ρ → dLcL g tt te vs x ds acc ρ q
  | [], acc, _, _, h => by simpa [dLcL] using h
  | d :: ds, acc, hs, hl, h => by
    rw [lcL_step]
    refine hs d List.mem_cons_self _ ?_
    rw [List.length_cons] at hl
    have z : acc.length < sizeLine := by rw [sizeLine_eq]; omega
    cases e : f d with
    | none =>
      refine lcL_filter f ds acc (fun d hd => hs d (List.mem_cons_of_mem _ hd)) (by omega) ?_
      simpa [e] using h
    | some o =>
      refine ⟨z, lcL_filter f ds (acc ++ [o]) (fun d hd => hs d (List.mem_cons_of_mem _ hd)) (by simp; omega) ?_⟩
      simpa [e] using h
theorem lcL_map {g : GT} {tt : BT} {te : ET} {vs : List Nat} {x : XP} {ρ : Env} {q : O → Env → Prop} (f : D → O) (ds : List D)
    (hs : ∀ d ∈ ds, ∀ k : Option O → Env → Prop, k (some (f d)) ρ → stepLc g tt te vs x d ρ k) (hl : ds.length ≤ 16000000) (h : q (.ol (ds.map f)) ρ) : dLcL g tt te vs x ds [] ρ q := by
  refine lcL_filter (fun d => some (f d)) ds [] hs (by simpa using hl) ?_
  simpa using h
@[simp] theorem ers_append (a b : List O) : ers (a ++ b) = ers a ++ ers b := by
  induction a with
  | nil => rfl
  | cons o a ih => simp [ih]
@[simp] theorem flts_append (a b : List O) : flts (a ++ b) = (flts a && flts b) := by
  induction a with
  | nil => simp
  | cons o a ih => simp [ih, Bool.and_assoc]
theorem ers_of {α : Type} (l : List α) (f : α → D) : ers (l.map fun a => .fr (f a)) = l.map f := by
  induction l with
  | nil => rfl
  | cons a l ih => simp [ih]
theorem flts_of {α : Type} (l : List α) (f : α → D) : flts (l.map fun a => .fr (f a)) = true := by
  induction l with
  | nil => rfl
  | cons a l ih => simp [ih]
theorem bools_of {α : Type} (l : List α) (f : α → Bool) : boolsO (l.map fun a => .fr (.bool (f a))) = some (l.map f) := by
  induction l with
  | nil => rfl
  | cons a l ih =>
    show (boolsO (l.map fun a => .fr (.bool (f a)))).map (f a :: ·) = _
    rw [ih]
    rfl
theorem strs_of {α : Type} (l : List α) (f : α → Str) : strsO (l.map fun a => .fr (.str (f a))) = some (l.map f) := by
  induction l with
  | nil => rfl
  | cons a l ih =>
    show (strsO (l.map fun a => .fr (.str (f a)))).map (f a :: ·) = _
    rw [ih]
    rfl
theorem atI_get {α : Type} {l : List α} {i : Int} (h0 : 0 ≤ i) (h : i < (l.length : Nat)) : atI l i = l[i.toNat]? := by
  unfold atI ixN
  rw [if_pos h0, if_pos h]
  rfl
theorem atI_nat' {α : Type} {l : List α} {i : Nat} (h : i < l.length) : atI l (i : Int) = l[i]? := by
  have := atI_get (l := l) (i := (i : Int)) (by omega) (by omega)
  rw [this]
  rfl
@[simp] theorem atI0 {α : Type} {a : α} {l : List α} : atI (a :: l) 0 = some a := by
  rw [atI_get (by decide) (by simp only [List.length_cons]; omega)]
  rfl
@[simp] theorem atI1 {α : Type} {a b : α} {l : List α} : atI (a :: b :: l) 1 = some b := by
  rw [atI_get (by decide) (by simp only [List.length_cons]; omega)]
  rfl
@[simp] theorem atI2 {α : Type} {a b c : α} {l : List α} : atI (a :: b :: c :: l) 2 = some c := by
  rw [atI_get (by decide) (by simp only [List.length_cons]; omega)]
  rfl
theorem ixN_nat {n i : Nat} (h : i < n) : ixN n (i : Int) = some i := by
  unfold ixN
  rw [if_pos (by omega), if_pos (by omega)]
  rfl
/-! ### data that == may see -/
def Sh (k : Nat) (d : D) : Prop := d.canLay0 = true ∧ d.depth ≤ k
theorem Sh.shaped {k : Nat} {d : D} (h : Sh k d) (hk : k ≤ 64 := by decide) : SeqAt.shaped d = true := by
  unfold SeqAt.shaped
  rw [h.1, Bool.true_and]
  exact decide_eq_true (Nat.le_trans h.2 hk)
theorem sh_int {i : Int} {k : Nat} : Sh k (.int i) := ⟨rfl, Nat.zero_le _⟩
theorem sh_bool {i : Bool} {k : Nat} : Sh k (.bool i) := ⟨rfl, Nat.zero_le _⟩
theorem sh_none {k : Nat} : Sh k .none := ⟨rfl, Nat.zero_le _⟩
theorem sh_all {k : Nat} : ∀ {ds : List D}, (∀ d ∈ ds, Sh k d) → PyData.canLayAll0 ds = true ∧ PyData.depthAll ds ≤ k
  | [], _ => ⟨rfl, Nat.zero_le _⟩
  | d :: ds, h => by
    obtain ⟨a, b⟩ := sh_all fun e he => h e (List.mem_cons_of_mem _ he)
    obtain ⟨c, e⟩ := h d List.mem_cons_self
    refine ⟨?_, ?_⟩
    · show (d.canLay0 && PyData.canLayAll0 ds) = true
      rw [c, a]
      rfl
    · show max d.depth (PyData.depthAll ds) ≤ k
      omega
theorem sh_list {k : Nat} {ds : List D} (h : ∀ d ∈ ds, Sh k d) : Sh (k + 1) (.list ds) := by
  obtain ⟨a, b⟩ := sh_all h
  exact ⟨a, Nat.succ_le_succ b⟩
theorem sh_tup {k : Nat} {ds : List D} (h : ∀ d ∈ ds, Sh k d) : Sh (k + 1) (.tuple ds) := by
  obtain ⟨a, b⟩ := sh_all h
  exact ⟨a, Nat.succ_le_succ b⟩
theorem Sh.mono {j k : Nat} {d : D} (h : Sh j d) (hk : j ≤ k) : Sh k d := ⟨h.1, Nat.le_trans h.2 hk⟩
/-! ### == of data -/
theorem eqv_int (i j : Int) : PyData.eqv (.int i) (.int j) = (i == j) := by rfl
/-! ### ties, records -/
abbrev Tie := Int × Int × Int
def eT (t : Tie) : D := .tuple [.int t.1, .int t.2.1, .int t.2.2]
def eR (r : List Tie) : D := .list (r.map eT)
def eI (l : List Int) : D := .list (l.map .int)
theorem eT_inj {s t : Tie} (h : eT s = eT t) : s = t := by
  unfold eT at h
  simp at h
  obtain ⟨a, b, c⟩ := s
  obtain ⟨a', b', c'⟩ := t
  simp_all
theorem eqv_eT (s t : Tie) : PyData.eqv (eT s) (eT t) = decide (s = t) := by
  obtain ⟨a, b, c⟩ := s
  obtain ⟨a', b', c'⟩ := t
  show (a == a' && (b == b' && (c == c' && true))) = _
  by_cases h1 : a = a' <;> by_cases h2 : b = b' <;> by_cases h3 : c = c' <;> simp [h1, h2, h3]
theorem eqvAll_eT : ∀ (r s : List Tie), PyData.eqvAll (r.map eT) (s.map eT) = decide (r = s)
  | [], [] => rfl
  | [], _ :: _ => rfl
  | _ :: _, [] => rfl
  | x :: xs, y :: ys => by
    show (PyData.eqv (eT x) (eT y) && PyData.eqvAll (xs.map eT) (ys.map eT)) = _
    rw [eqv_eT, eqvAll_eT xs ys]
    by_cases h1 : x = y
    · by_cases h2 : xs = ys
      · simp [h1, h2]
      · simp [h1, h2]
    · simp [h1]
theorem eqv_eR (r s : List Tie) : PyData.eqv (eR r) (eR s) = decide (r = s) := eqvAll_eT r s
theorem sh_eT (t : Tie) : Sh 1 (eT t) := sh_tup fun d hd => by
  simp at hd
  rcases hd with rfl | rfl | rfl <;> exact sh_int
theorem sh_eR (r : List Tie) : Sh 2 (eR r) := sh_list fun d hd => by
  obtain ⟨t, _, rfl⟩ := List.mem_map.mp hd
  exact sh_eT t
theorem sh_eI (l : List Int) : Sh 1 (eI l) := sh_list fun d hd => by
  obtain ⟨t, _, rfl⟩ := List.mem_map.mp hd
  exact sh_int
end DL
set_option Elab.async false
set_option linter.all false
set_option maxRecDepth 100000
set_option maxHeartbeats 4000000
/-! Numbers, ties, records as texts. -/
namespace DL
open PySem PySem.Spec PyProof.Rows L2 TL
theorem str_ext {a b : Str} (h : tl a = tl b) : a = b := by
  obtain ⟨⟨x⟩⟩ := a
  obtain ⟨⟨y⟩⟩ := b
  have h : x = y := h
  rw [h]
theorem str_len (a : Str) : a.length = (tl a).length := by
  show a.cps.size = _
  simp
theorem len_app (a b : Str) : (a ++ b).length = a.length + b.length := by
  rw [str_len, str_len, str_len, tl_append, List.length_append]
theorem app_assoc (a b c : Str) : a ++ b ++ c = a ++ (b ++ c) := str_ext (by simp [tl_append])
/-- a number's text -/
abbrev numS (n : Int) : Str := Str.ofString (toString n)
theorem tl_numS {n : Int} (h : 0 ≤ n) : tl (numS n) = numL n.toNat := by
  obtain ⟨m, rfl⟩ := Int.eq_ofNat_of_zero_le h
  exact tl_num m
theorem numL_dig {m c : Nat} (h : c ∈ numL m) : 48 ≤ c ∧ c ≤ 57 := by
  unfold numL at h
  obtain ⟨ch, hch, rfl⟩ := List.mem_map.mp h
  exact digit_range (Nat.isDigit_of_mem_toDigits (by decide) (by decide) hch)
theorem numL_neq (m : Nat) : numL m ≠ [] := by
  unfold numL
  intro e
  exact Nat.toDigits_ne_nil (List.map_eq_nil_iff.mp e)
theorem numL_lenI {m k : Nat} (hk : 0 < k) : (numL m).length ≤ k ↔ m < 10 ^ k := by
  unfold numL
  rw [List.length_map]
  exact Nat.length_toDigits_le_iff (by decide) hk
theorem numL_vl (m : Nat) : NumText.digitsVal (numL m) = m := PySem.W.KIN.val_back m
theorem numS_len {n : Int} (h : 0 ≤ n) {k : Nat} (hk : 0 < k) (h1 : n < 10 ^ k) : (numS n).length ≤ k := by
  rw [str_len, tl_numS h, numL_lenI hk]
  have : ((n.toNat : Nat) : Int) < ((10 ^ k : Nat) : Int) := by
    rw [Int.toNat_of_nonneg h]
    simpa using h1
  exact Int.ofNat_lt.mp this
theorem numS_pos {n : Int} (h : 0 ≤ n) : 1 ≤ (numS n).length := by
  rw [str_len, tl_numS h]
  cases e : numL n.toNat with
  | nil => exact absurd e (numL_neq _)
  | cons a l => simp
theorem numS_reads {n : Int} (h : 0 ≤ n) (hl : (numS n).length ≤ 4300) : PySem.intText? (numS n) = some n := by
  rw [str_len, tl_numS h] at hl
  have e := int_num hl
  rw [Int.toNat_of_nonneg h] at e
  exact e
/-- the first sign is 0 in 0 alone -/
theorem numL_head (m : Nat) : ∀ c l, numL m = c :: l → c = 48 → m = 0 := by
  induction m using Nat.strongRecOn with
  | _ m ih =>
    intro c l e hc
    by_cases h : m < 10
    · rw [numL_lt h] at e
      injection e with e1 e2
      omega
    · have hm : m % 10 < 10 := Nat.mod_lt m (by decide)
      have t : Nat.toDigits 10 (m / 10) ++ Nat.toDigits 10 (m % 10) = Nat.toDigits 10 (10 * (m / 10) + m % 10) := Nat.toDigits_append_toDigits (by decide) (by omega) hm
      rw [Nat.div_add_mod] at t
      have e2 : numL m = numL (m / 10) ++ numL (m % 10) := by
        unfold numL
        rw [← t, List.map_append]
      cases e3 : numL (m / 10) with
      | nil => exact absurd e3 (numL_neq _)
      | cons a l' =>
        rw [e2, e3] at e
        injection e with e4 e5
        have := ih (m / 10) (by omega) a l' e3 (by omega)
        omega
theorem tl_colon : tl (Str.ofString ":") = 58 :: [] := by decide
theorem tl_dash : tl (Str.ofString "-") = 45 :: [] := by decide
theorem tl_blank : tl (Str.ofString " ") = 32 :: [] := by decide
theorem tl_semi : tl (Str.ofString "; ") = 59 :: [32] := by decide
theorem numS_free {n : Int} (h : 0 ≤ n) {k : Nat} (hk : k < 48 ∨ 57 < k) : k ∉ tl (numS n) := by
  rw [tl_numS h]
  intro z
  have := numL_dig z
  omega
/-- a tie's text -/
def tieS (t : Tie) : Str := numS t.1 ++ ":" ++ numS t.2.1 ++ "-" ++ numS t.2.2
/-- a tie whose numbers are none below nought -/
def TOk (t : Tie) : Prop := 0 ≤ t.1 ∧ 0 ≤ t.2.1 ∧ 0 ≤ t.2.2
theorem tieS_free {t : Tie} (h : TOk t) {k : Nat} (hk : k < 45 ∨ 58 < k) : k ∉ tl (tieS t) := by
  unfold tieS
  rw [tl_append, tl_append, tl_append, tl_append, tl_numS h.1, tl_numS h.2.1, tl_numS h.2.2]
  rw [show tl (":" : Str) = [58] from tl_colon, show tl ("-" : Str) = [45] from tl_dash]
  intro z
  simp only [List.mem_append, List.mem_cons, List.not_mem_nil, or_false] at z
  rcases z with (((z | z) | z) | z) | z
  · have := numL_dig z; omega
  · omega
  · have := numL_dig z; omega
  · omega
  · have := numL_dig z; omega
theorem tie_part1 {t : Tie} (h : TOk t) : Txt.partition (tieS t) ":" = (numS t.1, (":" : Str), numS t.2.1 ++ "-" ++ numS t.2.2) := by
  have e : tieS t = numS t.1 ++ ":" ++ (numS t.2.1 ++ "-" ++ numS t.2.2) := by
    unfold tieS
    simp only [app_assoc]
  rw [e]
  exact partition_app tl_colon (numS_free h.1 (by omega))
theorem tie_part2 {t : Tie} (h : TOk t) : Txt.partition (numS t.2.1 ++ "-" ++ numS t.2.2) "-" = (numS t.2.1, ("-" : Str), numS t.2.2) :=
  partition_app tl_dash (numS_free h.2.1 (by omega))
/-- a record's text -/
def recS (r : List Tie) : Str := if r = [] then "none" else Txt.join "; " (r.map tieS)
theorem rec_split {r : List Tie} (hne : r ≠ []) (h : ∀ t ∈ r, TOk t) : Txt.split (recS r) "; " = r.map tieS := by
  unfold recS
  rw [if_neg hne]
  refine split_join tl_semi (by decide +kernel) (fun e => hne (List.map_eq_nil_iff.mp e)) fun p hp => ?_
  obtain ⟨t, ht, rfl⟩ := List.mem_map.mp hp
  exact tieS_free (h t ht) (by omega)
theorem tieS_head {t : Tie} (h : TOk t) : ∃ c l, tl (tieS t) = c :: l ∧ 48 ≤ c ∧ c ≤ 57 := by
  unfold tieS
  rw [tl_append, tl_append, tl_append, tl_append, tl_numS h.1]
  cases e : numL t.1.toNat with
  | nil => exact absurd e (numL_neq _)
  | cons a l => exact ⟨a, _, rfl, numL_dig (m := t.1.toNat) (by rw [e]; exact List.mem_cons_self)⟩
theorem tl_join_head {y : Str} {p : Str} {ps : List Str} : ∃ l, tl (Txt.join y (p :: ps)) = tl p ++ l := by
  rw [join_eq, tl_join]
  cases ps with
  | nil => exact ⟨[], by simp [joinL]⟩
  | cons q ps => exact ⟨_, by simp only [List.map_cons, joinL]; rfl⟩
theorem rec_none {r : List Tie} (hne : r ≠ []) (h : ∀ t ∈ r, TOk t) : recS r ≠ "none" := by
  unfold recS
  rw [if_neg hne]
  intro e
  cases r with
  | nil => exact hne rfl
  | cons t r =>
    obtain ⟨l, hl⟩ := tl_join_head (y := "; ") (p := tieS t) (ps := r.map tieS)
    obtain ⟨c, l', hc, h1, h2⟩ := tieS_head (h t List.mem_cons_self)
    rw [List.map_cons] at e
    rw [e, hc] at hl
    have : tl (Str.ofString "none") = [110, 111, 110, 101] := by decide
    have hl : tl (Str.ofString "none") = (c :: l') ++ l := hl
    rw [this] at hl
    injection hl with h3 _
    omega
/-- bounded ties -/
def TBd (t : Tie) : Prop := 0 ≤ t.1 ∧ t.1 ≤ 10 ^ 30 ∧ 0 ≤ t.2.1 ∧ t.2.1 < 10 ∧ 0 ≤ t.2.2 ∧ t.2.2 < 10
theorem TBd.ok {t : Tie} (h : TBd t) : TOk t := ⟨h.1, h.2.2.1, h.2.2.2.2.1⟩
theorem tieS_len {t : Tie} (h : TBd t) : (tieS t).length ≤ 35 := by
  unfold tieS
  rw [len_app, len_app, len_app, len_app]
  have h1 := numS_len h.1 (k := 31) (by decide) (by have := h.2.1; omega)
  have h2 := numS_len h.2.2.1 (k := 1) (by decide) (by have := h.2.2.2.1; omega)
  have h3 := numS_len h.2.2.2.2.1 (k := 1) (by decide) (by have := h.2.2.2.2.2; omega)
  have h4 : (":" : Str).length = 1 := by decide
  have h5 : ("-" : Str).length = 1 := by decide
  omega
theorem sum_len {l : List Str} {k : Nat} (h : ∀ s ∈ l, s.length ≤ k) : (l.map (·.length)).sum ≤ l.length * k := by
  induction l with
  | nil => simp
  | cons a l ih =>
    rw [List.map_cons, List.sum_cons, List.length_cons, Nat.succ_mul]
    have := h a List.mem_cons_self
    have := ih fun s hs => h s (List.mem_cons_of_mem _ hs)
    omega
theorem joinL_len (S : List Nat) : ∀ ls : List (List Nat), (joinL S ls).length ≤ (ls.map List.length).sum + ls.length * S.length
  | [] => by simp [joinL]
  | [a] => by simp [joinL]
  | a :: b :: r => by
    have := joinL_len S (b :: r)
    simp only [joinL, List.length_append, List.map_cons, List.sum_cons, List.length_cons] at this ⊢
    rw [Nat.succ_mul]
    rw [Nat.succ_mul] at this ⊢
    omega
theorem recS_len {r : List Tie} (h : ∀ t ∈ r, TBd t) (hl : r.length ≤ 60) : (recS r).length ≤ 2300 := by
  unfold recS
  split
  · decide
  · rw [str_len, join_eq, tl_join]
    refine Nat.le_trans (joinL_len _ _) ?_
    have e : (((r.map tieS).map tl).map List.length) = (r.map tieS).map (·.length) := by
      rw [List.map_map]
      refine List.map_congr_left fun s _ => ?_
      exact (str_len s).symm
    rw [e]
    have h1 : ((r.map tieS).map (·.length)).sum ≤ (r.map tieS).length * 35 := sum_len fun s hs => by
      obtain ⟨t, ht, rfl⟩ := List.mem_map.mp hs
      exact tieS_len (h t ht)
    have h2 : (tl ("; " : Str)).length = 2 := by decide
    rw [h2]
    simp only [List.length_map] at h1 ⊢
    omega
end DL
set_option Elab.async false
set_option linter.all false
set_option maxRecDepth 100000
set_option maxHeartbeats 4000000
/-! What is joined; labels; layers. -/
namespace DL
open PySem
inductive Conn (ts : List Tie) : Int → Int → Prop
  | refl (a : Int) : Conn ts a a
  | tie {t : Tie} (h : t ∈ ts) : Conn ts t.2.1 t.2.2
  | symm {a b : Int} (h : Conn ts a b) : Conn ts b a
  | trans {a b c : Int} (h : Conn ts a b) (h' : Conn ts b c) : Conn ts a c
theorem Conn.mono {ts us : List Tie} (h : ∀ t ∈ ts, t ∈ us) {a b : Int} (c : Conn ts a b) : Conn us a b := by
  induction c with
  | refl a => exact .refl a
  | tie ht => exact .tie (h _ ht)
  | symm _ ih => exact ih.symm
  | trans _ _ ih1 ih2 => exact ih1.trans ih2
theorem conn_nil {a b : Int} (c : Conn [] a b) : a = b := by
  induction c with
  | refl a => rfl
  | tie ht => cases ht
  | symm _ ih => exact ih.symm
  | trans _ _ ih1 ih2 => exact ih1.trans ih2
theorem conn_cons {t : Tie} {ts : List Tie} {x y : Int} : Conn (t :: ts) x y ↔ Conn ts x y ∨ (Conn ts x t.2.1 ∧ Conn ts t.2.2 y) ∨ (Conn ts x t.2.2 ∧ Conn ts t.2.1 y) := by
  constructor
  · intro c
    induction c with
    | refl a => exact .inl (.refl a)
    | tie ht =>
      rcases List.mem_cons.mp ht with e | ht
      · subst e
        exact .inr (.inl ⟨.refl _, .refl _⟩)
      · exact .inl (.tie ht)
    | symm _ ih =>
      rcases ih with h | ⟨h1, h2⟩ | ⟨h1, h2⟩
      · exact .inl h.symm
      · exact .inr (.inr ⟨h2.symm, h1.symm⟩)
      · exact .inr (.inl ⟨h2.symm, h1.symm⟩)
    | trans _ _ ih1 ih2 =>
      rcases ih1 with h | ⟨h1, h2⟩ | ⟨h1, h2⟩
      · rcases ih2 with k | ⟨k1, k2⟩ | ⟨k1, k2⟩
        · exact .inl (h.trans k)
        · exact .inr (.inl ⟨h.trans k1, k2⟩)
        · exact .inr (.inr ⟨h.trans k1, k2⟩)
      · rcases ih2 with k | ⟨k1, k2⟩ | ⟨k1, k2⟩
        · exact .inr (.inl ⟨h1, h2.trans k⟩)
        · exact .inr (.inl ⟨h1, k2⟩)
        · exact .inl (h1.trans k2)
      · rcases ih2 with k | ⟨k1, k2⟩ | ⟨k1, k2⟩
        · exact .inr (.inr ⟨h1, h2.trans k⟩)
        · exact .inl (h1.trans k2)
        · exact .inr (.inr ⟨h1, k2⟩)
  · have up : ∀ {a b : Int}, Conn ts a b → Conn (t :: ts) a b := fun c => c.mono fun _ h => List.mem_cons_of_mem _ h
    have e : Conn (t :: ts) t.2.1 t.2.2 := .tie List.mem_cons_self
    rintro (h | ⟨h1, h2⟩ | ⟨h1, h2⟩)
    · exact up h
    · exact ((up h1).trans e).trans (up h2)
    · exact ((up h1).trans e.symm).trans (up h2)
/-- the label at a place -/
def gt (m : List Int) (a : Int) : Int := m.getD a.toNat 0
theorem gt_some {m : List Int} {a : Int} (h0 : 0 ≤ a) (h : a < (m.length : Nat)) : m[a.toNat]? = some (gt m a) := by
  have hl : a.toNat < m.length := by omega
  unfold gt
  rw [List.getD_eq_getElem?_getD, List.getElem?_eq_getElem hl]
  rfl
theorem gt_map {m : List Int} {a : Int} (f : Int → Int) (h0 : 0 ≤ a) (h : a < (m.length : Nat)) : gt (m.map f) a = f (gt m a) := by
  have hl : a.toNat < m.length := by omega
  unfold gt
  simp [List.getD_eq_getElem?_getD, List.getElem?_eq_getElem hl]
/-- labels that tell what is joined -/
structure Lab (n : Nat) (m : List Int) (ts : List Tie) : Prop where
  len : m.length = n
  iff : ∀ a b : Int, 0 ≤ a → a < n → 0 ≤ b → b < n → (gt m a = gt m b ↔ Conn ts a b)
theorem lab_range (n : Nat) : Lab n ((List.range n).map fun (k : Nat) => (k : Int)) [] := by
  refine ⟨by simp, fun a b h1 h2 h3 h4 => ?_⟩
  have g : ∀ c : Int, 0 ≤ c → c < n → gt ((List.range n).map fun (k : Nat) => (k : Int)) c = c := fun c h h' => by
    have : c.toNat < n := by omega
    unfold gt
    simp [List.getD_eq_getElem?_getD, List.getElem?_range this]
    omega
  rw [g a h1 h2, g b h3 h4]
  exact ⟨fun e => e ▸ .refl a, conn_nil⟩
/-- one class's label is changed to the other's -/
theorem lab_join {n : Nat} {m : List Int} {ts : List Tie} {t : Tie} (L : Lab n m ts) (ha : 0 ≤ t.2.1 ∧ t.2.1 < n) (hb : 0 ≤ t.2.2 ∧ t.2.2 < n) {u v : Int}
    (h : (u = gt m t.2.1 ∧ v = gt m t.2.2) ∨ (u = gt m t.2.2 ∧ v = gt m t.2.1)) : Lab n (m.map fun z => if z = u then v else z) (t :: ts) := by
  refine ⟨by simp [L.len], fun x y h1 h2 h3 h4 => ?_⟩
  have lx : x < (m.length : Nat) := by rw [L.len]; exact h2
  have ly : y < (m.length : Nat) := by rw [L.len]; exact h4
  rw [gt_map _ h1 lx, gt_map _ h3 ly, conn_cons, ← L.iff x y h1 h2 h3 h4, ← L.iff x _ h1 h2 ha.1 ha.2, ← L.iff x _ h1 h2 hb.1 hb.2, ← L.iff _ y hb.1 hb.2 h3 h4, ← L.iff _ y ha.1 ha.2 h3 h4]
  rcases h with ⟨rfl, rfl⟩ | ⟨rfl, rfl⟩
  all_goals
    by_cases e1 : gt m x = gt m t.2.1 <;> by_cases e2 : gt m x = gt m t.2.2 <;> by_cases e3 : gt m y = gt m t.2.1 <;> by_cases e4 : gt m y = gt m t.2.2 <;> simp_all [eq_comm]
/-- ties to a place itself add nothing -/
theorem lab_same {n : Nat} {m : List Int} {ts us : List Tie} (L : Lab n m ts) (h : ∀ a b, Conn us a b ↔ Conn ts a b) : Lab n m us :=
  ⟨L.len, fun a b h1 h2 h3 h4 => by rw [L.iff a b h1 h2 h3 h4, h]⟩
/-! ### layers -/
def inL (j : Int) (d : List (Tie × Int)) : List Tie := (d.filter fun z => z.2 == j).map (·.1)
/-- the first of some layers from j on, c of them, in which two places are not joined; 0 where there is none -/
noncomputable def fstL (d : List (Tie × Int)) (a b : Int) : Nat → Int → Int
  | 0, _ => 0
  | c + 1, j => open Classical in if Conn (inL j d) a b then fstL d a b c (j + 1) else j
/-- the layers of a record's ties, each with its tie -/
noncomputable def lays (k : Nat) : List Tie → List (Tie × Int)
  | [] => []
  | t :: r => (t, fstL (lays k r) t.2.1 t.2.2 k 1) :: lays k r
noncomputable def layN (k : Nat) (r : List Tie) : List Int := (lays k r).map (·.2)
theorem lays_fst (k : Nat) : ∀ r : List Tie, (lays k r).map (·.1) = r
  | [] => rfl
  | t :: r => by
    show t :: (lays k r).map (·.1) = _
    rw [lays_fst k r]
theorem layN_len (k : Nat) (r : List Tie) : (layN k r).length = r.length := by
  have := congrArg List.length (lays_fst k r)
  simpa [layN] using this
theorem fstL_range (d : List (Tie × Int)) (a b : Int) : ∀ (c : Nat) (j : Int), fstL d a b c j = 0 ∨ (j ≤ fstL d a b c j ∧ fstL d a b c j < j + c)
  | 0, j => .inl rfl
  | c + 1, j => by
    unfold fstL
    split
    · rcases fstL_range d a b c (j + 1) with h | h
      · exact .inl h
      · exact .inr ⟨by omega, by omega⟩
    · exact .inr ⟨by omega, by omega⟩
theorem inL_cons {j : Int} {t : Tie} {i : Int} {d : List (Tie × Int)} : inL j ((t, i) :: d) = if i = j then t :: inL j d else inL j d := by
  unfold inL
  rw [List.filter_cons]
  by_cases h : i = j
  · simp [h]
  · simp [h]
end DL
set_option Elab.async false
set_option linter.all false
set_option maxRecDepth 100000
set_option maxHeartbeats 2000000
/-! Laws of loops. -/
namespace DL
open PySem PySem.Spec PyProof.Rows L2
@[simp] theorem atI_map {α β : Type} {l : List α} {f : α → β} {i : Int} : atI (l.map f) i = (atI l i).map f := by
  unfold atI
  rw [List.length_map]
  cases ixN l.length i <;> simp
theorem lcL_mapE {α : Type} {g : GT} {tt : BT} {te : ET} {vs : List Nat} {x : XP} {ρ : DL.Env} {q : O → DL.Env → Prop} (l : List α) (e : α → D) (f : α → O)
    (hs : ∀ a ∈ l, ∀ k : Option O → DL.Env → Prop, k (some (f a)) ρ → stepLc g tt te vs x (e a) ρ k) (hl : l.length ≤ 16000000) (h : q (.ol (l.map f)) ρ) : dLcL g tt te vs x (l.map e) [] ρ q := by
  suffices ∀ (l2 : List α) (acc : List O), (∀ a ∈ l2, ∀ k : Option O → DL.Env → Prop, k (some (f a)) ρ → stepLc g tt te vs x (e a) ρ k) → acc.length + l2.length ≤ 16000000 → q (.ol (acc ++ l2.map f)) ρ → dLcL g tt te vs x (l2.map e) acc ρ q from
    this l [] hs (by simpa using hl) (by simpa using h)
  intro l2
  induction l2 with
  | nil => intro acc _ _ h; simpa [dLcL] using h
  | cons a l2 ih =>
    intro acc hs hl h
    rw [List.map_cons, lcL_step]
    refine hs a List.mem_cons_self _ ?_
    rw [List.length_cons] at hl
    have z : acc.length < sizeLine := by rw [sizeLine_eq]; omega
    exact ⟨z, ih (acc ++ [f a]) (fun d hd => hs d (List.mem_cons_of_mem _ hd)) (by simp; omega) (by simpa using h)⟩
theorem lcL_filterE {α : Type} {g : GT} {tt : BT} {te : ET} {vs : List Nat} {x : XP} {ρ : DL.Env} {q : O → DL.Env → Prop} (l : List α) (e : α → D) (f : α → Option O)
    (hs : ∀ a ∈ l, ∀ k : Option O → DL.Env → Prop, k (f a) ρ → stepLc g tt te vs x (e a) ρ k) (hl : l.length ≤ 16000000) (h : q (.ol (l.filterMap f)) ρ) : dLcL g tt te vs x (l.map e) [] ρ q := by
  suffices ∀ (l2 : List α) (acc : List O), (∀ a ∈ l2, ∀ k : Option O → DL.Env → Prop, k (f a) ρ → stepLc g tt te vs x (e a) ρ k) → acc.length + l2.length ≤ 16000000 → q (.ol (acc ++ l2.filterMap f)) ρ → dLcL g tt te vs x (l2.map e) acc ρ q from
    this l [] hs (by simpa using hl) (by simpa using h)
  intro l2
  induction l2 with
  | nil => intro acc _ _ h; simpa [dLcL] using h
  | cons a l2 ih =>
    intro acc hs hl h
    rw [List.map_cons, lcL_step]
    refine hs a List.mem_cons_self _ ?_
    rw [List.length_cons] at hl
    have z : acc.length < sizeLine := by rw [sizeLine_eq]; omega
    cases ef : f a with
    | none =>
      refine ih acc (fun d hd => hs d (List.mem_cons_of_mem _ hd)) (by omega) ?_
      simpa [ef] using h
    | some o => exact ⟨z, ih (acc ++ [o]) (fun d hd => hs d (List.mem_cons_of_mem _ hd)) (by simp; omega) (by simpa [ef] using h)⟩
theorem rngD_eq (lo : Int) (n : Nat) : rngD lo n = (List.range n).map fun (j : Nat) => PyData.int (lo + (j : Int)) := rfl
/-- what one statement leaves is all that the next may lean on -/
theorem seq_cut {a b : DT} {E : EE} {ρ : DL.Env} (P : DL.Env → Prop) (h1 : ∀ nx : DL.Env → Prop, (∀ ρ', P ρ' → nx ρ') → a { E with nx := nx } ρ) (h2 : ∀ ρ', P ρ' → b E ρ') : dSeq a b E ρ := h1 _ h2
/-- a loop by what holds of what is left -/
theorem loop_inv {α : Type} {g : GT} {b : DT} {E : EE} (e : α → D) (I : List α → DL.Env → Prop)
    (step : ∀ a l ρ (nx : DL.Env → Prop), I (a :: l) ρ → (∀ ρ', I l ρ' → nx ρ') → g (.fr (e a)) ρ fun ρ1 => b { E with nx := nx, ct := nx, bk := E.nx } ρ1)
    (stop : ∀ ρ, I [] ρ → E.nx ρ) : ∀ (l : List α) (ρ : DL.Env), I l ρ → dLoop g b (l.map e) E ρ
  | [], ρ, h => stop ρ h
  | a :: l, ρ, h => step a l ρ (fun ρ' => dLoop g b (l.map e) E ρ') h fun ρ' h' => loop_inv e I step stop l ρ' h'
end DL
set_option Elab.async false
set_option linter.all false
set_option maxRecDepth 100000
set_option maxHeartbeats 2000000
/-! The law's own promise. -/
namespace DL
open PySem PySem.Spec PyProof.Rows L2
theorem dpAll_ints {K : PySem.W.Frag} {H : Hp} : ∀ ns : List Int, DpAll K H (ns.map V.int) (ns.map PyData.int)
  | [] => .nil
  | n :: ns => .cons (.int n) (dpAll_ints ns)
theorem law_sp {K : PySem.W.Frag} {W : WF} {H : Hp} {a : Addr} {ns : List Int} (hS : SqL K H a (ns.map V.int)) (h : ∀ q x, q (.fr (.bool true)) [.fr (.list (ns.map .int))] → W [.fr (.list (ns.map .int))] q x) :
    spO K 1 W [.ref a] H (fun v _ => v = .bl true) fun _ _ _ => False := by
  refine ⟨H, [.fr (.list (ns.map .int))], fun _ => False, fun o _ => o = .fr (.bool true), fun _ _ => False, Ex.refl H, ?_, rfl, h _ _ rfl, ?_, ?_⟩
  · refine ⟨.ref a, [], fun _ => False, fun _ => False, rfl, ?_, ?_, ?_, ?_, rfl⟩
    all_goals first | exact .lst hS (dpAll_ints ns) | (intro x y; cases y) | (intro x y z; cases y)
  · intro r os' v F' H' T S' _ ow _ _ _ _ e
    subst e
    cases (show Dp K F' v (.bool true) from ow)
    rfl
  · intro xd cls d os' F' H' S' _ _ _ _ _ e
    exact e
end DL
set_option Elab.async false
set_option linter.all false
set_option maxRecDepth 100000
set_option maxHeartbeats 4000000
/-! An exception out of a list comprehension's element. -/
namespace DL
open PySem PySem.Spec PyProof.Rows L2
section
variable {X : Cx} {pins pins8 : List (Addr × Obj)} {σ σ8 : L2.St} {H3 H8 : Hp} {s3 s8 s' : Shared} {E : XK} {scope : Scope} {ce : PySem.Env} {fp : List Addr} {u : Value}
/-- out of a call in the block, the exception is in the def's air -/
theorem comp_out (hs : X.stack = X.env :: X.outer) (hf : X.env.frame = some X.env.locals) (I3 : Inv X pins σ H3 s3) (hcf : ce.frame = X.env.frame) (cL : ce.locals = s3.heap.objs.size)
    (f3 : ∀ b ∈ fp, FpOk X pins H3 b ∧ b < s3.heap.objs.size) (I8 : Inv (X.blk s3 H3 scope ce fp) pins8 σ8 H8 s8) (hcx : L2.CX X.prog X.w X.stack H8 s8 E u s')
    (tk : Takes X (fun cls d _ H => E cls d H)) : notedBy (model X.prog X.w) X.A ce (CompFails (model X.prog X.w) X.A X.xe ce) u s' := by
  obtain ⟨a, B, H', cls, d, rfl, fl, hok, ub, na, os, ag, hE⟩ := hcx
  have hfr : X.A.frames = some (X.env :: X.outer) := by rw [I3.ok.frames, hs]
  have nC8 : H8 ce.locals = none := I8.free
  have cF : FpOk X pins H8 ce.locals := I3.fpOk (by rw [cL]; exact Nat.le_refl _) nC8
  have cnf : ce.locals ∉ frs X.stack := fun hm => by
    rw [hs] at hm
    unfold frs at hm
    rw [List.filterMap_cons, hf] at hm
    rcases List.mem_cons.mp hm with z | z
    · exact cF.2.1 z
    · exact cF.2.2.1 z
  obtain ⟨m, hn8, _⟩ := id I8.loc
  have hn8 : s8.heap.Ns ce.locals m := hn8
  obtain ⟨oC, es, ep, hoC, hdC, _⟩ := id hn8
  have bC : B.get? ce.locals = some oC := ub.keep _ _ hoC nC8 cnf
  have nC' : H' ce.locals = none := ub.free _ _ hoC nC8
  have st : B.StaysIn s'.heap := fl.1
  have fl' := fl
  rw [hs] at fl'
  show wpAny _ X.A (noteFrame (.ref a) ce) _ _ s'
  rw [noteFrame_env (.ref a) hcf]
  refine HandSPX.looks_onZ Zc.steady hfr hf fl' fun h1 hh up => ?_
  obtain ⟨b1, b0, f1, t1⟩ := id hh
  have ns1 : h1.Ns ce.locals m := hn8.at fun o e => by
    rw [hoC] at e
    cases e
    exact b1 _ _ bC
  refine ⟨m, ns1, fun h2 m2 hn2 sb => ?_⟩
  obtain ⟨B', r1, r2⟩ := restrict B fun b => decide (b ≠ ce.locals)
  have bs : ∀ b o, B'.get? b = some o → b ≠ ce.locals ∧ B.get? b = some o := fun b o e => by
    by_cases hb : b = ce.locals
    · rw [r2 b (decide_eq_false fun z => z hb)] at e
      cases e
    · rw [r1 b (decide_eq_true hb)] at e
      exact ⟨hb, e⟩
  have sb' : ∀ b o, b ≠ ce.locals → B.get? b = some o → B'.get? b = some o := fun b o hb e => by
    rw [r1 b (decide_eq_true hb)]
    exact e
  have bn : ∀ b, B.get? b = none → B'.get? b = none := fun b e => by
    cases q : B'.get? b with
    | none => rfl
    | some o =>
      rw [(bs b o q).2] at e
      cases e
  have st2 : B'.StaysIn h2 := fun b o e => by
    obtain ⟨hb, e⟩ := bs b o e
    rw [sb.2 b hb]
    exact b1 b o e
  have ff2 : h2.FunFrames B' (X.env :: X.outer) := funFrames_none (Heap.FunFrames.sameBut sb hn2 f1) fun L hL => bn L (f1.mem hL).1
  have t2 : HandSPX.TracedZ h2 B' a (Zc cls d) (rawInt X.env.locals) := by
    obtain ⟨oe, vs, T, oT, ts, he, hz, hd, h1', hnT, hTe, hT, hdT, h3⟩ := t1
    have neA : a ≠ ce.locals := fun z => by
      rw [z, bC] at b0
      cases b0
    have neT : T ≠ ce.locals := fun z => by
      rw [z, bC] at hnT
      cases hnT
    exact ⟨oe, vs, T, oT, ts, by rw [sb.2 a neA]; exact he, hz, hd, h1', bn T hnT, hTe, by rw [sb.2 T neT]; exact hT, hdT, h3⟩
  have hh2 : HandSPX.HeldZ B' (X.env :: X.outer) a (Zc cls d) X.env.locals h2 := ⟨st2, bn a b0, ff2, t2⟩
  obtain ⟨oe, vs, T, oT, ts, he, hz, hd, h1', _⟩ := id t2
  unfold PySem.passOn
  refine wpAny_bind (wpAny_field he hd h1' ?_)
  rw [if_neg (show ¬ ((Value.ref T == Value.none) = true) from by simp), hcf, hf]
  have fin : wpAny (model X.prog X.w) X.A (setFlight (.ref a) (some X.env.locals)) (fun _ s4 => wpAny (model X.prog X.w) X.A (throw (.ref a) : Sem Value) (fun _ _ => False) X.xe s4) X.xe { s' with heap := h2 } := by
    refine HandSPX.setFlight_onZ hh2 fun h3 hh3 up3 => wpAny_throw (tk _ _ ?_)
    obtain ⟨G, g1, g2⟩ := restrict s'.heap fun b => (B'.get? b).isSome || decide (b ∈ frs X.stack)
    have gB : ∀ b o, B'.get? b = some o → G.get? b = some o := fun b o e => by
      rw [g1 b (by simp [e])]
      exact st b o (bs b o e).2
    have gF : ∀ b, b ∈ frs X.stack → G.get? b = s'.heap.get? b := fun b hb => g1 b (by simp [hb])
    have og : ∀ b o, G.get? b = some o → s'.heap.get? b = some o ∧ ((B'.get? b).isSome = true ∨ b ∈ frs X.stack) := fun b o e => by
      cases q : ((B'.get? b).isSome || decide (b ∈ frs X.stack)) with
      | false => rw [g2 b q] at e; cases e
      | true =>
        rw [g1 b q] at e
        exact ⟨e, by simpa [Bool.or_eq_true] using q⟩
    have gC : ∀ b o, G.get? b = some o → b ≠ ce.locals := fun b o e z => by
      rcases (og b o e).2 with q | q
      · obtain ⟨o', q⟩ := Option.isSome_iff_exists.mp q
        exact (bs b o' q).1 z
      · exact cnf (z ▸ q)
    have ne3 : ∀ b o, s3.heap.get? b = some o → b ≠ ce.locals := fun b o e z => by
      rw [z, cL] at e
      exact Nat.lt_irrefl _ (Heap.lt_size e)
    have un : Un (frs X.stack) fp H3 H' s3.heap G := by
      refine ⟨fun b o e n hb hx => ?_, fun b o e n hb hx => ?_, fun b o e n hx => ?_, fun b o e hx => ?_, fun b xs e => ub.tups b xs (I8.base.tups b xs e), fun b o xs e => ub.frzs b o xs (I8.base.frzs b o xs e), fun b ps e => ?_⟩
      · exact gB b o (sb' b o (ne3 b o e) (ub.keep b o (I8.base.keep b o e n hb hx) (I8.base.free b o e n hx) hb))
      · obtain ⟨sl, q⟩ := I8.base.slot b o e n hb hx
        obtain ⟨sl', q'⟩ := ub.slot b _ q hb
        exact ⟨sl', by rw [gF b hb]; exact q'⟩
      · obtain ⟨o', q⟩ := I8.base.there b o e hx
        exact ub.free b o' q (I8.base.free b o e n hx)
      · obtain ⟨o', q⟩ := I8.base.there b o e hx
        by_cases hb : b ∈ frs X.stack
        · obtain ⟨sl, q'⟩ := ub.slot b o' q hb
          exact ⟨_, by rw [gF b hb]; exact q'⟩
        · obtain ⟨o2, q'⟩ := ub.there b o' q hb
          exact ⟨o2, gB b o2 (sb' b o2 (ne3 b o e) q')⟩
      · obtain ⟨m1, q1⟩ := I8.base.tbls b ps e
        obtain ⟨m2, q2⟩ := ub.tbls b _ q1
        exact ⟨m1 ++ m2, by rw [q2]; simp⟩
    have hokG : HOk X.prog X.w H' G := fun b o q => (hok b o q).stay (fun c v hc r => by
      refine gB c v (sb' c v (fun z => ?_) r)
      rcases hc with hc | hc
      · rw [← hc, z, nC'] at q
        cases q
      · rw [z, nC'] at hc
        cases hc) (fun _ r => r) fun _ _ r => r
    have J := I3.call (ch := fp) (h' := G) (g' := s'.gens) (d' := s'.drawn) (t' := s'.toks) un hokG ag fun b hb => ⟨(f3 b hb).1.2.2.2.1, (f3 b hb).1.2.1, (f3 b hb).1.2.2.2.2.1, (f3 b hb).1.2.2.2.2.2⟩
    refine ⟨a, B', _, pins, σ, H', cls, d, rfl, J, fun b o e hb => ?_, fun b o e hnf => ?_, .inr (.inr (by rw [hs]; exact hh3)), na, ?_, ag, hE⟩
    · obtain ⟨e1, q⟩ := og b o e
      rcases q with q | q
      · obtain ⟨o', q⟩ := Option.isSome_iff_exists.mp q
        have := gB b o' q
        rw [e] at this
        cases this
        exact q
      · exact absurd q hb
    · obtain ⟨e1, _⟩ := og b o e
      obtain ⟨sl, q⟩ := up b o e1 hnf
      have q2 : h2.get? b = some { o with slots := sl } := by rw [sb.2 b (gC b o e)]; exact q
      obtain ⟨sl2, q3⟩ := up3 b _ q2 hnf
      exact ⟨sl2, q3⟩
    · show s'.os = s3.os
      rw [os, I8.os]
  first
    | exact wpAny_bind (wpAny_pure (wpAny_bind fin))
    | exact wpAny_bind fin
end
end DL
namespace DL
open PySem PySem.Spec PyProof.Rows L2
section
variable {X : Cx}
/-- a block whose element may raise: what it asks of the element -/
def EltR (X : Cx) (scope : Scope) (elt : Expr) (te : TE) (E : XK) : Prop := ∀ (s : Shared) (H : Hp) (C : Addr) (cl : List (Str × Addr)) (fp : List Addr) (xe : Value → Shared → Prop),
  Passes (L2.CX X.prog X.w) ((X.blk s H scope (compEnvC scope cl C X.env) fp).wish xe) E → PE ((X.blk s H scope (compEnvC scope cl C X.env) fp).wish xe) elt te
theorem lcR_run {pins : List (Addr × Obj)} {s : Shared} {σ : L2.St} {H : Hp} {Q : VK} {elt tg iter : Expr} {scope : Scope} {own : List (Str × Nat)} {pos pos' : Pos} {wi : TI} {g : TG} {te : TE} {use : Option (Value → Sem Unit)} {Qf : Value → Shared → Prop} {E : XK}
    (hstk : X.stack = X.env :: X.outer) (hfrm : X.env.frame = some X.env.locals) (tk : Takes X (fun cls d _ H => E cls d H))
    (hc : X.calm = true) (hN : X.N.Nodup) (I : Inv X pins σ H s) (hi : PI X tg iter wi) (ok : BlkOk X.N X.env.scope scope own)
    (hg : ∀ (s : Shared) (H : Hp) (C : Addr) (cl : List (Str × Addr)) (fp : List Addr), PG (X.blk s H scope (compEnvC scope cl C X.env) fp) tg g) (he : EltR X scope elt te E)
    (hfold : ∀ x, foldedSetIterable iter X.env x = pure x) (h : tLc wi g tYes te (own.map (·.2)) σ H Q)
    (done : ∀ D (cv : PySem.Env) t m G, Inv X pins σ G t → Q (.ref D) G → t.heap.Ns cv.locals m → FpOk X pins G cv.locals → compEnds (model X.prog X.w) X.A X.xe use Qf (.ref D) cv (.ok .next) t) :
    wpAny (model X.prog X.w) X.A (comprehension (.ListComp elt [⟨tg, iter, [], 0⟩] scope pos) scope X.env pos' (newList []) false (eval iter X.env) use) Qf X.xe s := by
  have fr : ∀ y ∈ scope.names, y.2 = .free → ∃ c, X.env.cells.lookup y.1 = some c := fun y hy e => I.ok.has _ (ok.free y hy e)
  refine comprehension_at (use := use) rfl hfold (closure_ok fr) ok.kind (fun y hy e => (ok.uniq y hy).trans (by rw [e])) (thn (hi.run pins s σ H _ I h) fun xv s1 hx => thn hx fun itv s2 h2 => ?_)
  obtain ⟨it, fp, tn, J, G2, rfl, I2, T, at2, f2, q⟩ := h2
  refine wpAny_newObj_type (newEnv_comp ?_) (by show 0 ≤ sizeLine; decide)
  obtain ⟨D, eD⟩ : ∃ D, D = s2.heap.objs.size := ⟨_, rfl⟩
  obtain ⟨s3, e3⟩ : ∃ s3 : Shared, s3 = { s2 with heap := s2.heap.push { cls := .type "list", data := .seq ([] : List Value).toArray } } := ⟨_, rfl⟩
  have freeD : G2 D = none := I2.hok.fresh (by rw [eD]; exact Nat.le_refl _)
  obtain ⟨W, ⟨m0, w0⟩, turn⟩ := q D freeD
  obtain ⟨G3, eG⟩ : ∃ G3, G3 = upd G2 D (.lst []) := ⟨_, rfl⟩
  rw [← eG] at w0
  have hp3 : s3.heap = s2.heap.push { cls := .type "list", data := .seq ([] : List Value).toArray } := by rw [e3]
  have keep3 : ∀ b o, s2.heap.get? b = some o → s3.heap.get? b = some o := fun b o e => by
    rw [hp3]
    exact Heap.get?_push_of_some _ e
  have I3 : Inv X pins σ G3 s3 := by
    rw [eG, e3]
    refine I2.laid (t' := s2.toks) (fun b o e => Heap.get?_push_of_some _ e) (Nat.le_of_eq eD.symm) ⟨Nat.zero_le _, [], 0, .nil, ?_⟩
    rw [eD]
    exact Heap.get?_push_size _ rfl
  have f3 : ∀ b ∈ fp, FpOk X pins G3 b ∧ b < s3.heap.objs.size := fun b hb => by
    obtain ⟨o, e, _⟩ := T.obj _ _ at2 b hb
    have lt := Heap.lt_size e
    refine ⟨⟨?_, (f2 b hb).2⟩, by rw [hp3, Heap.size_push]; exact Nat.lt_succ_of_lt lt⟩
    rw [eG, upd_ne (by rw [eD]; exact Nat.ne_of_lt lt)]
    exact (f2 b hb).1
  have at3 : tn 0 s3.heap := T.keep _ _ _ at2 fun b _ o e => keep3 b o e
  have I4 := block_start I3 ok hN f3
  have pg := hg s3 G3 s3.heap.objs.size (cellsFrom (s3.heap.objs.size + 1) scope.names (cloFrom X.env.cells scope.names [])) fp
  have pe := he s3 G3 s3.heap.objs.size (cellsFrom (s3.heap.objs.size + 1) scope.names (cloFrom X.env.cells scope.names [])) fp
  rw [← eD, ← e3]
  obtain ⟨ce, ece⟩ : ∃ ce, ce = compEnvC scope (cellsFrom (s3.heap.objs.size + 1) scope.names (cloFrom X.env.cells scope.names [])) s3.heap.objs.size X.env := ⟨_, rfl⟩
  rw [← ece] at I4 pg pe
  have cL : ce.locals = s3.heap.objs.size := by rw [ece]; rfl
  have cF : ce.frame = X.env.frame := by rw [ece]; rfl
  have pe := pe (notedBy (model X.prog X.w) X.A ce (CompFails (model X.prog X.w) X.A X.xe ce)) fun pins8 σ8 H8 s8 e s' I8 cx => comp_out hstk hfrm I3 cF cL f3 I8.unwish cx tk
  obtain ⟨s4, e4⟩ : ∃ s4 : Shared, s4 = { s3 with heap := pushCells (s3.heap.push { cls := .type "dict", data := .dict #[] }) scope.names } := ⟨_, rfl⟩
  rw [← e4] at I4
  have at4 : tn 0 s4.heap := T.keep _ _ _ at3 fun b _ o e => by rw [e4]; exact pushCells_keeps _ _ _ _ (Heap.get?_push_of_some _ e)
  have goal_eq : codeAny (model X.prog X.w) X.A (.compStart (.ListComp elt [⟨tg, iter, [], 0⟩] scope pos) 0 (.ref it) (.ref D) ce) (compEnds (model X.prog X.w) X.A X.xe use Qf (.ref D) ce) s4 := by
    have held : ∀ {σ' : L2.St} {G : Hp} {t : Shared}, Inv (X.blk s3 G3 scope ce fp) [] σ' G t → (∀ b ∈ fp, G b = none) → ∀ b ∈ fp, FpOk (X.blk s3 G3 scope ce fp) [] G b := fun {σ' G t} I' hn b hb =>
      ⟨hn b hb, (I'.ok.exf b hb).1, I'.ok.exfs b hb, .inl hb, fun x c e => (I'.ok.exf b hb).2 x c e, fun p hp => absurd (show p ∈ ([] : List (Addr × Obj)) ++ [] from hp) (by simp)⟩
    have loop : codeAny (model X.prog X.w) X.A (.compLoop (.ListComp elt [⟨tg, iter, [], 0⟩] scope pos) 0 (.ref it) (.ref D) ce) (compEnds (model X.prog X.w) X.A X.xe use Qf (.ref D) ce) s4 := by
      refine compLoop_any (fun n t => ∃ i G, Inv (X.blk s3 G3 scope ce fp) [] (wipe σ (own.map (·.2))) G t ∧ tn i t.heap ∧ (∀ b ∈ fp, G b = none) ∧ W i n G) ?_ m0 ⟨0, G3, I4, at4, fun b hb => (f3 b hb).1.1, w0⟩
      rintro n t ⟨i, G, It, att, nt, wt⟩
      rcases turn i n G wt with ⟨stop, fine⟩ | ⟨go, Nx, nxt, step⟩
      · refine thnF (T.done (X.blk s3 G3 scope ce fp) rfl rfl rfl hc i [] t _ G (fun _ _ => False) It (held It nt) att stop) fun r t1 ⟨hr, I1⟩ => ?_
        subst hr
        have J1 : Inv X pins σ G t1 := I3.call' (ch := fp) I1.os I1.base I1.hok I1.bare fun b hb => ⟨(f3 b hb).1.2.2.2.1, (f3 b hb).1.2.1, (f3 b hb).1.2.2.2.2.1, (f3 b hb).1.2.2.2.2.2⟩
        have nC : G ce.locals = none := I1.free
        obtain ⟨m, hn, _⟩ := I1.loc
        exact done D ce t1 m G J1 fine hn (I3.fpOk (Nat.le_of_eq cL.symm) nC)
      · refine thnF (T.item (X.blk s3 G3 scope ce fp) rfl rfl rfl hc i [] t _ G (fun _ _ => False) It (held It nt) att go) fun r t1 ⟨u, hr, h1⟩ => ?_
        subst hr
        refine thnF h1 fun _ t2 ⟨x, G5, I5, r5, y5, at5, n5⟩ => ?_
        have I5' := I5.pinned (held I5 n5) (T.obj _ _ at5)
        refine thnF (pg.run _ t2 _ G5 x u _ I5' r5 (step x G5 y5)) fun _ t3 ⟨σ6, G6, I6, hw6, q6⟩ => ?_
        refine wpAny_tests_nil ?_
        rw [if_pos rfl]
        have q6 : te σ6 G6 fun y H4 => ∃ acc, H4 D = some (.lst acc) ∧ acc.length < sizeLine ∧ Nx (upd H4 D (.lst (acc ++ [y]))) := q6
        refine wpAny_mono (pe.run _ t3 σ6 G6 _ (I6.wish _) q6) (fun z t4 ⟨yv, G7, I7, r7, acc, hD7, hz7, nx⟩ => ?_) fun _ _ e => e
        refine app_ok (X := X.blk s3 G3 scope ce fp) I7.unwish hD7 hz7 r7 fun t5 I8 => ?_
        obtain ⟨m', lt', w'⟩ := nxt _ nx
        have pin' : ∀ b ∈ fp, ∀ o, t2.heap.get? b = some o → t5.heap.get? b = some o ∧ (upd G7 D (.lst (acc ++ [yv]))) b = none := fun b hb o e =>
          let z := I8.pin (b, o) (List.mem_append_right _ (List.mem_append_right _ (mem_pinsAt hb e)))
          ⟨z.1, z.2.1⟩
        refine ⟨m', lt', i + 1, _, (I8.unpinned (pins := [])).weak (by rw [← hw6, wipe_length]) (fun j v e => ?_), T.keep _ _ _ at5 fun b hb o e => (pin' b hb o e).1, fun b hb => ?_, w'⟩
        · rw [← hw6] at e
          exact (wipe_some e).1
        · obtain ⟨o, e, _⟩ := T.obj _ _ at5 b hb
          exact (pin' b hb o e).2
    exact codeAny_compStart_list loop (T.self X.A 0 _ _ _ at4 loop)
  rw [e4, ece] at goal_eq
  exact goal_eq
end
end DL
set_option Elab.async false
set_option linter.all false
set_option maxRecDepth 100000
set_option maxHeartbeats 4000000
namespace DL
open PySem PySem.Spec PyProof.Rows L2
section
variable {X : Cx} {elt tg iter : Expr} {scope : Scope} {own : List (Str × Nat)} {pos : Pos} {wi : TI} {g : TG} {te : TE} {E : XK}
/-- [elt for tg in iter], elt may raise -/
theorem pe_lcR (hstk : X.stack = X.env :: X.outer) (hfrm : X.env.frame = some X.env.locals) (tk : Takes X (fun cls d _ H => E cls d H)) (hc : X.calm = true) (hN : X.N.Nodup) (hi : PI X tg iter wi) (ok : BlkOk X.N X.env.scope scope own)
    (hg : ∀ (s : Shared) (H : Hp) (C : Addr) (cl : List (Str × Addr)) (fp : List Addr), PG (X.blk s H scope (compEnvC scope cl C X.env) fp) tg g) (he : EltR X scope elt te E) (hfold : ∀ x, foldedSetIterable iter X.env x = pure x := by intro _; rfl) :
    PE X (.ListComp elt [⟨tg, iter, [], 0⟩] scope pos) (tLc wi g tYes te (own.map (·.2))) := by
  constructor
  intro pins t σ G Q I h
  rw [eval_ListComp]
  refine lcR_run hstk hfrm tk hc hN I hi ok hg he hfold h fun D cv t m G I' q hn f => ⟨m, hn, fun h2 sb => ?_⟩
  obtain ⟨z0, z1, _, z3, z4, z5⟩ := f
  exact ⟨.ref D, G, I'.turned (t' := t.toks) (fun b o hb e => (sb.2 b hb).trans e) z0 z1 z3 z4 z5, rfl, q⟩
theorem ps_setLcR {i : Nat} {y : Str} {py spos : Pos} (hstk : X.stack = X.env :: X.outer) (hfrm : X.env.frame = some X.env.locals) (tk : Takes X (fun cls d _ H => E cls d H)) (hc : X.calm = true) (hN : X.N.Nodup) (hy : X.N[i]? = some y) (hyl : X.env.scope.names.lookup y = some .local)
    (hsw : swapsWith (.ListComp elt [⟨tg, iter, [], 0⟩] scope pos) (some (.Name y py)) spos.line X.env = pure true) (hi : PI X tg iter wi) (ok : BlkOk X.N X.env.scope scope own)
    (hg : ∀ (s : Shared) (H : Hp) (C : Addr) (cl : List (Str × Addr)) (fp : List Addr), PG (X.blk s H scope (compEnvC scope cl C X.env) fp) tg g) (he : EltR X scope elt te E) (hfold : ∀ x, foldedSetIterable iter X.env x = pure x := by intro _; rfl) :
    PS X (.Assign [.Name y py] (.ListComp elt [⟨tg, iter, [], 0⟩] scope pos) spos) (tAsg (tLc wi g tYes te (own.map (·.2))) (gName i)) := by
  constructor
  intro pins t σ G D I h
  rw [exec_Assign_Name_used _ _ _ _ hsw]
  refine wpAny_bind (wpAny_standAt (wpAny_bind ?_))
  have h : tLc wi g tYes te (own.map (·.2)) σ G (fun x H1 => gName i x σ H1 D.nx) := h
  have run := lcR_run (pos := pos) (pos' := firstIterPos [⟨tg, iter, [], 0⟩] pos) (use := some (assign (.Name y py) X.env)) (Qf := fun _ s' => SP X pins D .next s') hstk hfrm tk hc hN I hi ok hg he hfold h fun L cv t1 m G1 I1 q hn f => ?_
  · exact wpAny_bind (thn run fun _ _ hq => wpAny_pure (wpAny_pure hq))
  · obtain ⟨z0, z1, _, z3, z4, z5⟩ := f
    show wpAny _ _ (assign (.Name y py) X.env (.ref L)) _ _ _
    refine wpAny_assign_Name (store_ok2 (v := V.ref L) I1 hN hy (.inl hyl) rfl (fun t2 I2 ⟨a, sb, ha⟩ => ?_) (.inr hyl))
    have ne : cv.locals ≠ a := ha.elim (fun z => by rw [z]; exact z1) fun z e => z4 y a z e.symm
    exact ⟨m, hn.sameBut sb ne, fun h3 sb3 => ⟨_, G1, I2.turned (t' := t2.toks) (fun b o hb e => (sb3.2 b hb).trans e) z0 z1 z3 z4 z5, q⟩⟩
end
end DL
set_option Elab.async false
set_option linter.all false
set_option maxRecDepth 100000
set_option maxHeartbeats 4000000
/-! Defs that raise. -/
namespace DL
open PySem PySem.Spec PyProof.Rows L2
/-- an own class of errors under ValueError, without own __init__ -/
structure ExcOk (K : PySem.W.Frag) (mg : Str → Option Value) (x : Str) (C : Addr) : Prop where
  gl : mg x = some (.ref C)
  ex : PySem.W.excIn K C [.type "ValueError", .type "Exception", .type "BaseException", .type "object"] "ValueError.__new__" = true
  kp : PySem.W.keepIn K (.ref C) = true
  bs : PySem.W.subIn K (.ref C) (.type "BaseException") = some true
  ty : PySem.W.typeIn K (.ref C) = some (.type "type")
section
variable {X : Cx} {x : Str} {C : Addr} {p pos pos2 : Pos} {W : WX}
theorem pmk_own0 (T : ExcOk X.K X.mg x C) (hg : Gl X x) (hdb : (x == ("__debug__" : Str)) = false := by decide) : PMk X (.Call (.Name x p) [] [] pos) (fun _ H Q => Q (.ref C) none H) := by
  intro pins t σ G Q I h
  refine wpAny_Call_Name_kw (ld_glob I hg T.gl ?_ hdb)
  refine PySem.W.callWith_K0 I.kIn T.kp ?_
  obtain ⟨bm, N, nm, qn, bs, hdct, sn, sub, ab, col, dd, k0, k1, k2, k3, k5, mN, hC, hN, hni, B⟩ := exc_obj I.kIn T.ex
  exact wpAny_call_exc_subT PySem.F.excBase_ValueError B hC hN hni (fun h' e hm => mk_of I hm (raises_own T.bs T.ty) h (I.hok.gone hm.new)) (by show 0 ≤ sizeLine; exact Nat.zero_le _)
def tRz (W : WX) (C : Addr) : TS := fun _ σ H => W (.ref C) none σ H
theorem ps_raise0 (hc : X.calm = true) (tk : Takes X W) (T : ExcOk X.K X.mg x C) (hg : Gl X x) (hdb : (x == ("__debug__" : Str)) = false := by decide) : PS X (.Raise (some (.Call (.Name x p) [] [] pos)) none pos2) (tRz W C) :=
  ps_raise hc tk (pmk_own0 T hg hdb)
end
/-- a def that may raise, ready to be called -/
structure CalX (P : Program) (w : World) (K : PySem.W.Frag) (mg : Str → Option Value) (base : Heap) (x : Str) (k n : Nat) (f_ : WF) : Prop where
  ex : ∃ f fd ps, FnOk P w K mg base (L2.CX P w) k f fd ps (spO K n f_) ∧ mg x = some (.ref f) ∧ PySem.W.keepIn K (.ref f) = true ∧ Binds K fd ps []
section
variable {X : Cx} {x : Str} {k n : Nat} {f_ : WF} {e : Expr} {es : List Expr} {t : TA} {p pos : Pos} {E : XK}
theorem pe_calX (K : PySem.W.Frag) (C : CalX X.prog X.w X.K X.mg X.base x k n f_) (hr : Room k X.A) (hg : Gl X x) (hx : Passes (L2.CX X.prog X.w) X E) (ha : PA X (e :: es) t) (hK : X.K = K := by rfl) (hdb : (x == ("__debug__" : Str)) = false := by decide)
    (he : starEach (e :: es) X.env = (false, eval e X.env) :: starEach es X.env := by rfl) (hpl : (backTo pos (starEach es X.env)).any (·.1) = false := by rfl) : PE X (.Call (.Name x p) (e :: es) [] pos) (tCall (spO K n f_) [] E t) := by
  obtain ⟨f, fd, ps, F, hm, hk, hb⟩ := C.ex
  exact hK ▸ pe_call F hr hg hm hk hb .nil hx ha hdb he hpl
/-- the same where the errors meet a try of the frame -/
theorem pe_calS (K : PySem.W.Frag) {W : WX} (C : CalX X.prog X.w X.K X.mg X.base x k n f_) (hr : Room k X.A) (hg : Gl X x) (tk : Takes X W) (ha : PA X (e :: es) t) (hK : X.K = K := by rfl) (hdb : (x == ("__debug__" : Str)) = false := by decide)
    (he : starEach (e :: es) X.env = (false, eval e X.env) :: starEach es X.env := by rfl) (hpl : (backTo pos (starEach es X.env)).any (·.1) = false := by rfl) : PE X (.Call (.Name x p) (e :: es) [] pos) (tCallS (spO K n f_) (WE W) t) := by
  obtain ⟨f, fd, ps, F, hm, hk, hb⟩ := C.ex
  exact hK ▸ pe_callS F hr hg hm hk hb (fun σ => passAt tk σ) ha hdb he hpl
end
theorem CalX.mk1 {P : Program} {w : World} {K : PySem.W.Frag} {mg : Str → Option Value} {base : Heap} {x : Str} {st : Stmt} {ps N : List Str} {k n : Nat} {f_ : WF} (D : FunD K mg x st ps) (S : FnScope N ps (defScope st)) (hn : ps.length = n)
    (h : ∀ (f : Addr) (cdv : Value) (A : Around) (outer : List PySem.Env) (s : Shared) (H : Hp) (vs : List V) (Q : VK) (E : XK), Room k (A.deeper (envOfC x (defScope st) s.heap.objs.size f cdv)) → spO K n f_ vs H Q E →
      ∃ t, PSs (cxOf (L2.CX P w) P w K mg base N x (defScope st) f cdv A outer s H E) (defBody st) t ∧ t { nx := fun _ H' => Q .non H', rt := Q } (L2.start N vs) H) : CalX P w K mg base x (k + 1) n f_ := by
  obtain ⟨f, fd, F, b, m⟩ := D.ex
  exact ⟨f, fd, ps, F.okX S (fun vs H Q E q => spO_len hn q) (fun cdv A outer s H vs Q E hr q => h f cdv A outer s H vs Q E hr q), m, F.kp, b⟩
/-! ### as data -/
section
variable {K : PySem.W.Frag} {F H F1 H1 F2 H2 F' H' : Hp} {S S1 S2 T U : FP} {σ σ' : L2.St} {ρ ρ' : DL.Env} {W : XK} {kp : List Nat}
@[simp] def dRaise (C : Addr) : DT := fun E ρ => E.xc (.ref C, none) ρ
theorem sims_raise {C : Addr} : SimS K W kp (tRz (fun cls d _ H => W cls d H) C) (dRaise C) := fun F H σ ρ S D E st h p =>
  p.xc (.ref C, none) (.ref C) none σ ρ F H S st Stp.refl Fresh.refl Keep.refl ⟨rfl, trivial⟩ h
/-- a call that raises nothing, in a def that may -/
@[simp] def dCall0 (n : Nat) (w : WF) (t : RT) : ET := fun ρ q x => t ρ (fun as ρ1 => match res as ρ1 with
  | some (os, ρ2) => os.length = n ∧ w os (fun r os' => q r (bk as os' ρ2)) (fun _ _ => False)
  | none => False) x
theorem sim_call0 {n : Nat} {w : WF} {ta : TA} {t : RT} (ha : SimR K W ta t) : Sim K W (tCall (spO K n w) [] E0 ta) (dCall0 n w t) := fun F H σ ρ S q x Q st h p px => by
  refine ha F H σ ρ S _ x _ st h (fun as vs ρ1 F1 H1 T1 S1 s1 r1 d1 st1 n1 h1 => ?_) px
  have one : SimR K E0 (fun σ' H' R => σ' = σ ∧ H' = H1 ∧ R vs H1) (fun ρ' q' _ => ρ' = ρ1 ∧ q' as ρ1) → True := fun _ => trivial
  split at h1
  · rename_i os ρ2 e
    obtain ⟨hl, h1⟩ := h1
    obtain ⟨U, S', ro, sl, dU, hU, hS⟩ := res_ok r1 s1.sl d1 e
    have sub1 : ∀ a, Un2 U S' a → Un2 T1 S1 a := fun a z => z.elim (hU a) fun y => .inr (hS a y)
    have nU : Fresh H S (Un2 U S') := n1.sub sub1
    have rall : Owns K F1 H1 os (vs ++ []) U := by rw [List.append_nil]; exact ro
    refine ⟨F1, os, U, _, _, s1.ex, rall, hl, h1, ?_, fun _ _ _ _ _ _ _ _ _ _ _ _ z => z⟩
    intro r os' v F' H' T' S'' e' rr ro' d' st' n' hq
    obtain ⟨sl', dsl⟩ := holdS sl dU.sym st' n'
    have ro'' : Owns K F' H' os' (vs ++ []) S'' := ro'
    obtain ⟨S3, q1, q2⟩ := bk_ok r1 sl' ro'' (fun a y z => dsl a z (.inr y))
    refine p r v _ F' H' T' S3 ⟨e', q1⟩ rr (fun a y z => (q2 a z).elim (d' a y) (fun w => dsl a w (.inl y))) (st1.trans nU (st'.mono fun _ z => .inl z)) ?_ hq
    intro a z
    have n2 : Fresh H1 (Un2 U S') (Un2 T' S'') := n'.mono fun _ z => .inl z
    rcases z with z | z
    · exact Fresh.trans st1 nU n2 a (.inl z)
    · rcases q2 a z with y | y
      · exact Fresh.trans st1 nU n2 a (.inr y)
      · exact nU a (.inr y.1)
  · exact h1.elim
end
end DL
set_option Elab.async false
set_option linter.all false
set_option maxRecDepth 100000
set_option maxHeartbeats 4000000
namespace DL
open PySem PySem.Spec PyProof.Rows L2
section
variable {K : PySem.W.Frag} {F H F1 H1 F2 H2 F' H' : Hp} {S S1 S2 T U : FP} {σ σ' : L2.St} {ρ ρ' : DL.Env} {W : XK} {kp : List Nat}
/-- a comprehension whose element may raise -/
def dLcR (i : IT) (g : GT) (te : ET) (vs : List Nat) : ET := fun ρ q x => i ρ (fun ds ρ1 => dLcL g dYes te vs (fun xd ρ => x xd (wipeE ρ vs)) ds [] (wipeE ρ1 vs) q) x
theorem sim_lcR {wi : TI} {g : TG} {te : TE} {vs : List Nat} {i : IT} {gd : GT} {ed : ET} (hi : SimI K W wi i) (hg : ∀ kc : List Nat, (∀ i ∈ vs, i ∉ kc) → SimG K kc g gd) (he : Sim K W te ed) :
    Sim K W (tLc wi g tYes te vs) (dLcR i gd ed vs) := fun F H σ ρ S q x Q st h p px => by
  refine hi F H σ ρ S _ _ _ st h (fun ds J ρ00 F0 H0 S0 s00 wk st0 n0 h0 => ?_) px
  have s0 : ST K F0 H0 σ (wipeE ρ00 vs) S0 := ⟨s00.ex, slots_wipe0 s00.sl⟩
  generalize wipeE ρ00 vs = ρ0 at s0 h0
  intro D hD
  -- the state at turn k
  refine ⟨fun k m H1 => ∃ ρ1 F1 S1 acc va T, ST K F1 H1 σ ρ1 S1 ∧ Stp F0 H0 S0 F1 H1 ∧ Fresh H0 S0 (Un2 T S1) ∧ T D ∧ F1 D = none ∧ H1 D = some (.lst va) ∧ (∃ U, (∀ a, U a → T a) ∧ ¬ U D ∧ Owns K F1 H1 acc va U) ∧ Dj T S1 ∧ k ≤ ds.length ∧ m = ds.length - k ∧ dLcL gd dYes ed vs (fun xd ρ => x xd (wipeE ρ vs)) (ds.drop k) acc ρ1 q, ?_, ?_⟩
  · refine ⟨ds.length, ρ0, F0, Tg H0 S0, [], [], fun a => a = D, ?_, stp_new hD, ?_, rfl, s0.ex.back hD, upd_same, ⟨fun _ => False, fun _ z => z.elim, id, rfl⟩, fun a y z => z.2 (by rw [y]; exact hD), Nat.zero_le _, rfl, h0⟩
    · have st1 : Stp F0 H0 (fun _ => False) F0 (upd H0 D (.lst [])) := stp_new hD
      exact ⟨ex_new1 s0.ex hD, Slots.step st1 (fun _ _ z => z) s0.sl.tight⟩
    · intro a z
      rcases z with z | z
      · exact .inr (by rw [z]; exact hD)
      · exact .inl z.1
  · rintro k m H1 ⟨ρ1, F1, S1, acc, va, T, s1, st1, n1, tD, fD, hHD, ⟨U, hU, nU, ro⟩, dj, hk, rfl, h1⟩
    obtain ⟨go, stop⟩ := wk F1 H1 st1.ex s1.ex
    by_cases hlt : k < ds.length
    · refine .inr ?_
      have e : ds[k]? = some ds[k] := List.getElem?_eq_getElem hlt
      obtain ⟨g1, g2⟩ := go k _ e
      rw [List.drop_eq_getElem_cons hlt] at h1
      refine ⟨g1, fun H' => ∃ ρ1 F1 S1 acc va T, ST K F1 H' σ ρ1 S1 ∧ Stp F0 H0 S0 F1 H' ∧ Fresh H0 S0 (Un2 T S1) ∧ T D ∧ F1 D = none ∧ H' D = some (.lst va) ∧ (∃ U, (∀ a, U a → T a) ∧ ¬ U D ∧ Owns K F1 H' acc va U) ∧ Dj T S1 ∧ dLcL gd dYes ed vs (fun xd ρ => x xd (wipeE ρ vs)) (ds.drop (k + 1)) acc ρ1 q, ?_, fun y H' hy => ?_⟩
      · rintro H' ⟨ρ1, F1, S1, acc, va, T, a1, a2, a3, a4, a5, a6, a7, a8, a9⟩
        exact ⟨ds.length - (k + 1), by omega, ρ1, F1, S1, acc, va, T, a1, a2, a3, a4, a5, a6, a7, a8, hlt, rfl, a9⟩
      · obtain ⟨F2, e2, st2, r2⟩ := g2 y H' hy
        -- the environment within the block
        have s2 : ST K F2 H' (wipe σ vs) (wipeE ρ1 vs) S1 := ⟨e2, slots_wipe (Slots.step st2 (fun _ _ z => z) s1.sl)⟩
        -- what is carried: the list so far
        have carry : ∀ {F3 H3 : Hp} {S3 : FP}, Stp F1 H1 S1 F3 H3 → Fresh H1 S1 S3 → (Tg H1 T) D ∧ F3 D = none ∧ H3 D = some (.lst va) ∧ (∃ U', (∀ a, U' a → Tg H1 T a) ∧ ¬ U' D ∧ Owns K F3 H3 acc va U') ∧ Dj (Tg H1 T) S3 := fun {F3 H3 S3} stp n => by
          have nD : ¬ S1 D := dj D tD
          refine ⟨⟨tD, by rw [hHD]; simp⟩, stp.fz D fD (by rw [hHD]; simp) nD, stp.fr D _ hHD nD, ⟨Tg H1 U, fun a z => ⟨hU a z.1, z.2⟩, fun z => nU z.1, ?_⟩, fun a y z => (n a z).elim (dj a y.1) y.2⟩
          exact Owns.step stp (fun a z => dj a (hU a z.1)) ro.tight
        have st2' : Stp F1 H1 S1 F2 H' := st2.mono fun _ z => z.elim
        refine hg ((List.range σ.length).filter fun i => decide (i ∉ vs)) (fun i hi z => of_decide_eq_true (List.mem_filter.mp z).2 hi) F2 H' (wipe σ vs) (wipeE ρ1 vs) S1 (.fr ds[k]) y (fun _ => False) _ _ s2 r2 (fun _ z => z.elim) h1 fun σ3 ρ3 F3 H3 S3 s3 st3 n3 k3 l3 h3 => ?_
        have st3' : Stp F2 H' S1 F3 H3 := st3.mono fun _ z => z.elim (fun y => y.elim) id
        have n3' : Fresh H' S1 S3 := n3.mono fun _ z => z.elim (fun y => y.elim) id
        have st13 := st2'.trans Fresh.refl st3'
        have n13 : Fresh H1 S1 S3 := Fresh.trans (S1 := S1) st2' Fresh.refl n3'
        have l3' : σ3.length = σ.length := by rw [l3, wipe_length]
        have ew : wipe σ3 vs = wipe σ vs := by
          refine (wipe_ext (σ := wipe σ vs) l3 fun i hi => ?_).trans wipe_wipe
          by_cases hl : i < σ.length
          · exact k3 i (List.mem_filter.mpr ⟨List.mem_range.mpr hl, decide_eq_true hi⟩)
          · rw [List.getElem?_eq_none_iff.mpr (by omega), List.getElem?_eq_none_iff.mpr (by rw [wipe_length]; omega)]
        have pxr : ∀ {F3 H3 : Hp} {S3 : FP}, Stp F1 H1 S1 F3 H3 → Fresh H1 S1 S3 → PostX K F3 H3 σ3 S3 (fun xd ρ => x xd (wipeE ρ vs)) W := fun {F3 H3 S3} stp n xd c d ρ5 F5 H5 S5 s5 st5 n5 xr hx =>
          px xd c d (wipeE ρ5 vs) F5 H5 S5 ⟨s5.ex, slots_unwipe s5.sl l3' ew⟩ (st0.trans n0 (st1.trans (n1.sub fun _ z => .inr z) (stp.trans n st5))) (Fresh.trans st0 n0 (Fresh.trans st1 (n1.sub fun _ z => .inr z) (Fresh.trans stp n n5))) xr hx
        refine ⟨ew, ?_⟩
        refine sim_yes F3 H3 σ3 ρ3 S3 _ _ _ s3 h3 (fun b ρ4 F4 H4 S4 s4 st4 n4 h4 => ?_) (pxr st13 n13)
        have st14 := st13.trans n13 st4
        have n14 : Fresh H1 S1 S4 := Fresh.trans st13 n13 n4
        cases b with
        | false =>
          obtain ⟨c1, c2, c3, c4, c5⟩ := carry st14 n14
          refine ⟨_, F4, S4, acc, va, Tg H1 T, ⟨s4.ex, slots_unwipe s4.sl l3' ew⟩, st1.trans (n1.sub fun _ z => .inr z) st14, ?_, c1, c2, c3, c4, c5, h4⟩
          intro a z
          rcases z with z | z
          · exact n1 a (.inl z.1)
          · exact Fresh.trans st1 (n1.sub fun _ z => .inr z) n14 a z
        | true =>
          refine he F4 H4 σ3 ρ4 S4 _ _ _ s4 h4 (fun o v ρ5 F5 H5 T5 S5 s5 r5 d5 st5 n5 h5 => ?_) (pxr st14 n14)
          have st15 := st14.trans n14 st5
          have n15 : Fresh H1 S1 (Un2 T5 S5) := Fresh.trans st14 n14 n5
          obtain ⟨c1, c2, c3, ⟨U', u1, u2, u3⟩, c5⟩ := carry st15 n15
          have dD : ¬ T5 D := fun z => c5 D c1 (.inl z)
          refine ⟨va, c3, by rw [owns_len u3]; exact h5.1, ?_⟩
          have sl5 : Slots K F5 H5 (wipeE ρ5 vs) σ S5 := slots_unwipe s5.sl l3' ew
          have stD : Stp F5 H5 (fun a => a = D) F5 (upd H5 D (.lst (va ++ [v]))) := stp_set c2
          have nS : ∀ a, S5 a → ¬ a = D := fun a z e => c5 D c1 (.inr (e ▸ z))
          refine ⟨_, F5, S5, acc ++ [o], va ++ [v], Un2 (Tg H1 T) T5, ⟨ex_set s5.ex c2, Slots.step stD nS sl5⟩, ?_, ?_, .inl c1, c2, upd_same, ⟨Un2 U' T5, fun a z => z.imp (u1 a) id, fun z => z.elim u2 dD, ?_⟩, fun a z w => z.elim (fun y => c5 a y (.inr w)) (fun y => d5 a y w), h5.2⟩
          · have st05 := st1.trans (n1.sub fun _ z => .inr z) st15
            have n05 : Fresh H0 S0 (Un2 (Tg H1 T) (Un2 T5 S5)) := fun a z => z.elim (fun w => n1 a (.inl w.1)) (Fresh.trans st1 (n1.sub fun _ z => .inr z) n15 a)
            exact st05.trans n05 (stD.mono fun a z => .inl (z ▸ c1))
          · intro a z
            rcases z with (z | z) | z
            · exact n1 a (.inl z.1)
            · exact Fresh.trans st1 (n1.sub fun _ z => .inr z) n15 a (.inl z)
            · exact Fresh.trans st1 (n1.sub fun _ z => .inr z) n15 a (.inr z)
          · have q1 := Owns.step stD (fun a z e => u2 (e ▸ z)) u3
            have q2 := Own.step stD (fun a z e => dD (e ▸ z)) r5
            exact owns_snoc q1 q2 fun a y z => c5 a (u1 a y) (.inl z)
    · have hk' : k = ds.length := by omega
      subst hk'
      refine .inl ⟨stop, ?_⟩
      rw [List.drop_length] at h1
      exact p (.ol acc) (.ref D) ρ1 F1 H1 T S1 s1 ⟨D, va, U, rfl, tD, fD, hHD, hU, nU, ro⟩ dj (st0.trans n0 st1) (Fresh.trans st0 n0 n1) h1
end
end DL
set_option Elab.async false
set_option linter.all false
set_option maxRecDepth 100000
set_option maxHeartbeats 4000000
/-! try .. except C as e: caught = e, the error kept. -/
namespace DL
open PySem PySem.Spec PyProof.Rows L2
section
variable {X : Cx} {pins : List (Addr × Obj)} {σ : L2.St} {H : Hp} {s : Shared}
theorem track {a : Addr} {oe : Obj} {cls : Value} {d : Option Addr} (I : Inv X ((a, oe) :: pins) σ H s) (hz : Zc cls d oe) (hd : ∃ vs, oe.data = .fields vs) (n0 : X.s_0.heap.get? a = none) (np : ∀ p ∈ X.pn ++ pins, p.1 ≠ a) : Inv X pins σ (upd H a (CgO cls d a)) s := by
  obtain ⟨ha, na, nL, nF, nc⟩ := I.pin (a, oe) (List.mem_append_right _ List.mem_cons_self)
  have nb : ∀ b o, X.s_0.heap.get? b = some o → b ≠ a := fun b o e z => by
    rw [z, n0] at e
    cases e
  have ncell : ∀ x c, X.env.cells.lookup x = some c → c ≠ a := fun x c e z => by
    obtain ⟨v, o, ho, q⟩ := I.cell x c e
    rw [z, ha] at ho
    cases ho
    exact nc v q
  refine ⟨I.ok, I.os, I.bare, ⟨I.base.keep, I.base.slot, fun b o e n hx => ?_, I.base.there, fun b xs e => ?_, fun b o xs e => ?_, fun b ps e => ?_⟩, I.loc, I.cell, ?_, fun x c e => ?_, fun p hp => ?_, fun b u e => ?_, I.len⟩
  · rw [upd_ne (nb b o e)]
    exact I.base.free b o e n hx
  · have q := I.base.tups b xs e
    rw [upd_ne (ne_of_none q na)]
    exact q
  · have q := I.base.frzs b o xs e
    rw [upd_ne (ne_of_none q na)]
    exact q
  · obtain ⟨m, q⟩ := I.base.tbls b ps e
    exact ⟨m, by rw [upd_ne (ne_of_none q na)]; exact q⟩
  · rw [upd_ne nL.symm]
    exact I.free
  · rw [upd_ne (ncell x c e)]
    exact I.freeC x c e
  · obtain ⟨p1, p2, p3, p4, p5⟩ := I.pin p (by
      rcases List.mem_append.mp hp with z | z
      · exact List.mem_append_left _ z
      · exact List.mem_append_right _ (List.mem_cons_of_mem _ z))
    exact ⟨p1, by rw [upd_ne (np p hp)]; exact p2, p3, p4, p5⟩
  · by_cases hb : b = a
    · subst hb
      rw [upd_same] at e
      cases e
      obtain ⟨vs, hd⟩ := hd
      exact ⟨⟨oe, vs, ha, hz, hd⟩, ⟨oe, ha⟩, fun _ _ ⟨o, v, q, r⟩ k => ⟨o, v, k o q, r⟩⟩
    · rw [upd_ne hb] at e
      exact (I.hok b u e).stay (fun c v _ q => q) (fun c q => by rw [upd_ne (ne_of_none q na)]; exact q) fun c xs q => by rw [upd_ne (ne_of_none q na)]; exact q
end
/-- what the clause wishes of an error: slot i is e's, slot j keeps it -/
def wKeep (K : PySem.W.Frag) (c : Value) (i j : Nat) (D : Ends) : WX := fun cls d σ H =>
  PySem.W.exmOne K cls c = some true ∧ ∀ a, H a = none → D.nx (((σ.set i (some (.ref a))).set j (some (.ref a))).set i none) (upd H a (CgO cls d a))
section
variable {X : Cx} {x n : Str} {c : Value} {i j : Nat} {body suite : List Stmt} {b₀ : Stmt} {np pos pos' : Pos} {tb : WX → TS}
theorem ps_try_keep (hs : X.stack = X.env :: X.outer) (hex : X.ex = []) (hf : X.env.frame = some X.env.locals) (hN : X.N.Nodup) (hi : X.N[i]? = some n) (hln : X.env.kindOf n = some .local) (hc : Names X x c) (hsu : ∀ (a : Addr) (oe : Obj) (pn : List (Addr × Obj)), PSs (X.suite a ((a, oe) :: pn)) (b₀ :: suite) (tAsg (tVar i) (gName j)))
    (hb : ∀ (W : WX) (pn : List (Addr × Obj)) (xe : Value → Shared → Prop), Takes (X.tr pn xe) W → PSs (X.tr pn xe) body (tb W)) :
    PS X (.Try body [.ExceptHandler (some (.Name x np)) (some n) (b₀ :: suite) pos'] [] [] pos) (fun D σ H => tb (wKeep X.K c i j D) D σ H) := by
  constructor
  intro pins s σ H D I h
  have ok := I.ok
  have hfr : X.A.frames = some (X.env :: X.outer) := by rw [ok.frames, hs]
  have hloc : Loc X.env.scope n := .inl hln
  refine wpAny_Try_except ?_
  refine wpAny_mono ((hb (wKeep X.K c i j D) (X.pn ++ pins) (fun e s₁ => wpAny (model X.prog X.w) X.A (noteFrame e X.env) (fun _ s₂ => wpAny (model X.prog X.w) X.A (setFlight e none) (fun _ s₃ =>
    wpAny (model X.prog X.w) X.A (handleBy e X.env [.ExceptHandler (some (.Name x np)) (some n) (b₀ :: suite) pos']) (SP X pins D) X.xe s₃) X.xe s₂) X.xe s₁) (fun u s' xx => ?_)).run [] s σ H D (I.toTry _) h) (fun f s1 hsp => ?_) (fun e s1 he => he)
  · obtain ⟨a, B, sI, pl, σ', H', cls, d, rfl, J', nb, up, sky, na, os, ag, hcl, hk⟩ := xx
    have J : Inv X pins σ' H' sI := J'.ofTry ok
    have sky2 : Sky B (X.env :: X.outer) a (Zc cls d) X.env.locals s'.heap := by rw [← hs]; exact sky
    show wpAny (model X.prog X.w) X.A (noteFrame (.ref a) X.env) _ _ _
    refine Sky.land Zc.steady hfr hf sky2 fun h3 fl3 up3 => ?_
    have J3 : Inv X pins σ' H' { s' with heap := h3 } := J.landed nb fl3.1 (up.trans up3) os ag
    have aB : B.get? a = none := fl3.2.1
    obtain ⟨oe3, vs3, he3, hz3, hd3⟩ := fl3.there
    have off : a ∉ frs (X.env :: X.outer) := fun hm => by
      obtain ⟨_, o', e', hnf⟩ := fl3.2.2.1.mem hm
      rw [he3] at e'
      cases e'
      exact hnf _ hd3
    have nL : a ≠ X.env.locals := fun z => off (List.mem_filterMap.mpr ⟨X.env, List.mem_cons_self, by rw [hf, z]⟩)
    have nF : a ∉ X.fs := fun hm => by
      obtain ⟨e, he, q⟩ := List.mem_filterMap.mp hm
      exact off (List.mem_filterMap.mpr ⟨e, List.mem_cons_of_mem _ he, q⟩)
    have inB : ∀ b o, sI.heap.get? b = some o → b ≠ a := fun b o e z => by
      have hb : b ∉ frs X.stack := by rw [hs, z]; exact off
      have := nb b o e hb
      rw [z, aB] at this
      cases this
    have npin : ∀ p ∈ X.pn ++ pins, p.1 ≠ a := fun p hp => inB _ _ (J.pin p hp).1
    have n0 : X.s_0.heap.get? a = none := by
      cases e : X.s_0.heap.get? a with
      | none => rfl
      | some o =>
        obtain ⟨o', q⟩ := J.base.there a o e (by rw [hex]; exact fun z => nomatch z)
        exact absurd rfl (inB a o' q)
    have S3 := J3.suite he3 hd3 na nL nF
    refine wpAny_handleBy_cons (codeAny_handlers_test ?_) (by intro q; cases q)
    have ty3 : PySem.W.Looks (model X.prog X.w) h3 (typeOf (.ref a)) cls := fun A Q E s k q => wpAny_typeOf_ref (k _ _ he3) (by rw [hz3.1]; exact q)
    have mt := PySem.W.exm_one (M := model X.prog X.w) J3.kIn ty3 hcl
    have named : ∀ {Q : Value → Shared → Prop} {E : Value → Shared → Prop}, Q c { s' with heap := h3 } → wpAny (model X.prog X.w) (X.A.mark (some (.ref a))) (eval (.Name x np) X.env) Q E { s' with heap := h3 } := fun {Q E} q => by
      obtain ⟨hg, hdbg, hm | ⟨hm, hv, hnn⟩⟩ := hc
      · exact ld_glob (X := X.suite a ((a, oe3) :: (X.pn ++ pins))) S3 hg hm q hdbg
      · exact ld_blt (X := X.suite a ((a, oe3) :: (X.pn ++ pins))) S3 hg hm hv q hnn hdbg
    refine named (mt.here ?_)
    refine codeAny_handlers_suite_as ?_
    refine HandSPX.lands_againZ fl3 fun h4 fl4 up4 => ?_
    have J4 : Inv X pins σ' H' { s' with heap := h4 } := J.landed nb fl4.1 ((up.trans up3).trans up4) os ag
    obtain ⟨oe4, vs4, he4, hz4, hd4⟩ := fl4.there
    have S4 := J4.suite he4 hd4 na nL nF
    have hlt : i < σ'.length := by
      rw [J.len]
      exact (List.getElem?_eq_some_iff.mp hi).1
    refine store_ok (X := X.suite a ((a, oe4) :: (X.pn ++ pins))) (v := .ref a) S4 hN hi hloc rfl (fun s5 S5 => ?_) (.inr hln)
    refine wpAny_mono ((hsu a oe4 (X.pn ++ pins)).run [] s5 _ H' { nx := fun σ6 H6 => σ6 = (σ'.set i (some (.ref a))).set j (some (.ref a)) ∧ H6 = H', rt := fun _ _ => False } S5 ⟨.ref a, List.getElem?_set_self hlt, rfl, rfl⟩) (fun f s6 hsp => ?_) (fun _ _ z => False.elim z)
    cases f with
    | next =>
      obtain ⟨σ6, H6, S6, e6, eH⟩ := hsp
      subst e6 eH
      have K6 : Inv X ((a, oe4) :: pins) ((σ'.set i (some (.ref a))).set j (some (.ref a))) H6 s6 := ⟨ok, S6.os, S6.bare, S6.base, S6.loc, S6.cell, S6.free, S6.freeC, fun p hp => S6.pin p (List.mem_append_left _ (by
        rcases List.mem_append.mp hp with z | z
        · exact List.mem_cons_of_mem _ (List.mem_append_left _ z)
        · rcases List.mem_cons.mp z with z | z
          · rw [z]; exact List.mem_cons_self
          · exact List.mem_cons_of_mem _ (List.mem_append_right _ z))), S6.hok, S6.len⟩
      exact gone_ok K6 hN hi hln fun s7 K7 => ⟨_, _, track K7 hz4 ⟨_, hd4⟩ n0 npin, hk a na⟩
    | brk =>
      obtain ⟨_, _, _, z⟩ := hsp
      exact z.elim
    | cont =>
      obtain ⟨_, _, _, z⟩ := hsp
      exact z.elim
    | ret u =>
      obtain ⟨_, _, _, _, _, z⟩ := hsp
      exact z.elim
  · cases f with
    | next =>
      obtain ⟨σ1, H1, J1, q⟩ := hsp
      exact wpAny_execs_nil ⟨σ1, H1, J1.ofTry ok, q⟩
    | brk =>
      obtain ⟨σ1, H1, J1, q⟩ := hsp
      exact ⟨σ1, H1, J1.ofTry ok, q⟩
    | cont =>
      obtain ⟨σ1, H1, J1, q⟩ := hsp
      exact ⟨σ1, H1, J1.ofTry ok, q⟩
    | ret u =>
      obtain ⟨v, σ1, H1, J1, r, q⟩ := hsp
      exact ⟨v, σ1, H1, J1.ofTry ok, r, q⟩
end
end DL
set_option Elab.async false
set_option linter.all false
set_option maxRecDepth 100000
set_option maxHeartbeats 4000000
namespace DL
open PySem PySem.Spec PyProof.Rows L2
section
variable {K : PySem.W.Frag} {F H F1 H1 F2 H2 F' H' : Hp} {S S1 S2 T U : FP} {σ σ' : L2.St} {ρ ρ' : DL.Env} {W : XK} {kp : List Nat}
/-- try: x_k = f(..), except c as e (slot i): x_j = e -/
@[simp] def dTryA (K : PySem.W.Frag) (c : Value) (i j k n : Nat) (w : WF) (t : RT) : DT := fun E ρ =>
  dCall n w [] t ρ (fun o ρ1 => dName k o ρ1 E.nx) (fun xd ρ1 => PySem.W.exmOne K xd.1 c = some true ∧ xd.2 = none ∧ j < ρ1.length ∧ E.nx ((ρ1.set i none).set j (some (.ox xd.1 none))))
/-- the same, what f tells is dropped -/
@[simp] def dTryD (K : PySem.W.Frag) (c : Value) (i j n : Nat) (w : WF) (t : RT) : DT := fun E ρ =>
  dCall n w [] t ρ (fun o ρ1 => E.nx ρ1) (fun xd ρ1 => PySem.W.exmOne K xd.1 c = some true ∧ xd.2 = none ∧ j < ρ1.length ∧ E.nx ((ρ1.set i none).set j (some (.ox xd.1 none))))
theorem keep_post {c : Value} {i j : Nat} (hij : i ≠ j) (hik : i ∉ kp) (hjk : j ∉ kp) {D : Ends} {E : EE} (p : PostS K W kp F H S σ D E) :
    PostX K F H σ S (fun xd ρ1 => PySem.W.exmOne K xd.1 c = some true ∧ xd.2 = none ∧ j < ρ1.length ∧ E.nx ((ρ1.set i none).set j (some (.ox xd.1 none)))) (WE (wKeep K c i j D) σ) := by
  rintro ⟨c0, fs⟩ cls d ρ' F' H' S' s1 st1 n1 ⟨hc, hd⟩ ⟨he, hfs, hj, hn⟩
  dsimp only at hc he hfs hn hd
  subst hc hfs
  have hd0 : d = none := by
    cases d with
    | none => rfl
    | some dd => exact hd.elim
  subst hd0
  refine ⟨he, fun a na => ?_⟩
  have e : ((σ.set i (some (.ref a))).set j (some (.ref a))).set i none = (σ.set i none).set j (some (V.ref a)) := by
    rw [List.set_comm _ _ hij.symm, List.set_set]
  rw [e]
  have stn : Stp F' H' (fun _ => False) F' (upd H' a (CgO c0 none a)) := stp_new na
  have sl : Slots K F' (upd H' a (CgO c0 none a)) ρ' σ (Tg H' S') := Slots.step stn (fun _ _ z => z) s1.sl.tight
  have own : Own K F' (upd H' a (CgO c0 none a)) (.ox c0 none) (.ref a) (fun b => b = a) := ⟨a, none, rfl, rfl, s1.ex.back na, upd_same, trivial⟩
  have sl2 := (sl.drop (i := i) (v := none)).put (i := j) (by simpa using hj) own (fun b z y => y.2 (by rw [z]; exact na))
  have fresh : Fresh H' S' (fun b => b = a ∨ Tg H' S' b) := fun b z => z.elim (fun y => .inr (by rw [y]; exact na)) fun y => .inl y.1
  refine p.nx _ _ F' _ _ ⟨ex_new1 s1.ex na, sl2⟩ (st1.trans n1 (stn.mono fun _ z => z.elim)) (Fresh.trans st1 n1 fresh) (fun k hk => ?_) hn
  have h1 : i ≠ k := fun z => hik (z ▸ hk)
  have h2 : j ≠ k := fun z => hjk (z ▸ hk)
  rw [List.getElem?_set_ne h2, List.getElem?_set_ne h1]
theorem sims_tryA {c : Value} {i j k n : Nat} {w : WF} {ta : TA} {t : RT} (hij : i ≠ j) (hik : i ∉ kp) (hjk : j ∉ kp) (hkk : k ∉ kp) (ha : ∀ W, SimR K W ta t) :
    SimS K W kp (fun D σ H => tAsg (tCallS (spO K n w) (WE (wKeep K c i j D)) ta) (gName k) D σ H) (dTryA K c i j k n w t) := fun F H σ ρ S D E st h p => by
  have key := sim_call (W := WE (wKeep K c i j D) σ) (n := n) (w := w) (ds := []) (dvs := []) (fun _ _ => rfl) (ha _) F H σ ρ S _ _ (fun x H1 => gName k x σ H1 D.nx) st h
    (fun o v ρ' F' H' T S' s1 r d stp n' hq => simg_name hkk F' H' σ ρ' S' o v T _ _ s1 r d hq fun σ1 ρ1 F1 H1 S1 s2 st1 n1 k1 _ h1 => p.nx σ1 ρ1 F1 H1 S1 s2 (stp.trans n' st1) (Fresh.trans stp n' n1) k1 h1)
    (keep_post hij hik hjk p)
  unfold tCall at key
  simp only [List.append_nil] at key
  exact key
theorem sims_tryD {c : Value} {i j n : Nat} {w : WF} {ta : TA} {t : RT} (hij : i ≠ j) (hik : i ∉ kp) (hjk : j ∉ kp) (ha : ∀ W, SimR K W ta t) :
    SimS K W kp (fun D σ H => tDrop (tCallS (spO K n w) (WE (wKeep K c i j D)) ta) D σ H) (dTryD K c i j n w t) := fun F H σ ρ S D E st h p => by
  have key := sim_call (W := WE (wKeep K c i j D) σ) (n := n) (w := w) (ds := []) (dvs := []) (fun _ _ => rfl) (ha _) F H σ ρ S _ _ (fun x H1 => D.nx σ H1) st h
    (fun o v ρ' F' H' T S' s1 r d stp n' hq => p.nx σ ρ' F' H' S' s1 stp (n'.sub fun _ z => .inr z) Keep.refl hq)
    (keep_post hij hik hjk p)
  unfold tCall at key
  simp only [List.append_nil] at key
  exact key
/-- x_i is None, whatever x_i holds -/
@[simp] def dIsNV (neg : Bool) (i : Nat) : ET := fun ρ q _ => match ρ[i]? with
  | some (some (.fr .none)) => q (.fr (.bool (!neg))) ρ
  | some (some _) => q (.fr (.bool neg)) ρ
  | _ => False
theorem sim_isNV {i : Nat} {neg : Bool} : Sim K W (tOp (fun x y H Q => y = .non ∧ Q (.bl (if neg = true then !decide (x = .non) else decide (x = .non))) H) (tVar i) (tC .non)) (dIsNV neg i) := fun F H σ ρ S q x Q st h p _ => by
  unfold dIsNV at h
  have fin : ∀ b : Bool, q (.fr (.bool b)) ρ → Q (.bl b) H := fun b hq => p (.fr (.bool b)) _ ρ F H (fun _ => False) S st (scal_bl F) (fun _ z => z.elim) Stp.refl (fun a z => z.elim (fun y => y.elim) .inl) hq
  split at h
  · rename_i e
    obtain ⟨v, hv, r⟩ := st.sl.fr e
    cases r
    refine ⟨.non, hv, rfl, ?_⟩
    cases neg <;> exact fin _ h
  · rename_i o hne e
    obtain ⟨v, S1, S2, hv, _, _, _, r, _⟩ := st.sl.take e
    have nn : v ≠ .non := not_non r fun d ed ez => by
      subst ed ez
      exact hne rfl
    refine ⟨v, hv, rfl, ?_⟩
    have e0 : decide (v = .non) = false := decide_eq_false nn
    rw [e0]
    cases neg <;> exact fin _ h
  · exact h.elim
end
/-! ### isinstance of a kept error -/
section
variable {K : PySem.W.Frag}
def rIsX (K : PySem.W.Frag) : List V → Hp → VK → Prop := fun xs H Q => ∃ (a D : Addr) (c : V) (cv : Value) (b : Bool), xs = [.ref a, c] ∧ H a = some (CgO (.ref D) none a) ∧ ExcC K D ∧ (∀ u, RelV c u → u = cv) ∧ PySem.W.kitOne K (.ref D) cv = some b ∧ Q (.bl b) H
theorem call_isX {X : Cx} (hK : X.K = K) : CallR X (.builtin "isinstance") (rIsX K) := by
  intro pins s σ H xs us Q I r h
  obtain ⟨a, D, c, cv, b, rfl, ha, hC, hcv, e, q⟩ := h
  subst hK
  cases r with
  | cons rx rr =>
    cases rr with
    | cons rt rr =>
      cases rr
      cases rx
      have ec := hcv _ rt
      subst ec
      obtain ⟨⟨oe, vs, hget, hz, hv⟩, _, _⟩ := I.hok a _ ha
      have J : PySem.W.InstAt s.heap a oe D none := by
        obtain ⟨oc, od, oda, osl⟩ := oe
        obtain ⟨h1, h2⟩ := hz
        dsimp only at h1 h2 hv
        subst h1 h2 hv
        exact ⟨hget, rfl, rfl, trivial⟩
      exact PySem.W.kia_one (PySem.W.handS_kitx_exc hC.hg hC.hk hC.hs hC.hd hC.ha hC.hn hC.ht hC.hm) I.kIn J e (fun z => nomatch z) fun tk => ⟨.bl b, H, I.kept (t' := tk) fun _ _ z => z, rfl, q⟩
/-- isinstance(e, (c, ..)) -/
def rIsXT (K : PySem.W.Frag) : List V → Hp → VK → Prop := fun xs H Q => ∃ (a D t : Addr) (cs : List V) (cvs : List Value) (b : Bool), xs = [.ref a, .ref t] ∧ H a = some (CgO (.ref D) none a) ∧ ExcC K D ∧ H t = some (.tup cs) ∧ (∀ us, Vals cs us → us = cvs) ∧ PySem.W.kitAny K (.ref D) cvs = some b ∧ Q (.bl b) H
theorem call_isXT {X : Cx} (hK : X.K = K) : CallR X (.builtin "isinstance") (rIsXT K) := by
  intro pins s σ H xs us Q I r h
  obtain ⟨a, D, t, cs, cvs, b, rfl, ha, hC, ht, hcv, e, q⟩ := h
  subst hK
  cases r with
  | cons rx rr =>
    cases rr with
    | cons rt rr =>
      cases rr
      cases rx
      cases rt
      obtain ⟨⟨oe, vs, hget, hz, hv⟩, _, _⟩ := I.hok a _ ha
      have J : PySem.W.InstAt s.heap a oe D none := by
        obtain ⟨oc, od, oda, osl⟩ := oe
        obtain ⟨h1, h2⟩ := hz
        dsimp only at h1 h2 hv
        subst h1 h2 hv
        exact ⟨hget, rfl, rfl, trivial⟩
      obtain ⟨hl, its, rv, ot⟩ := I.hok t _ ht
      have ei := hcv _ rv
      subst ei
      obtain ⟨⟨oc, od, odt, osl⟩, hg, hcl, m, hdt⟩ := ot
      dsimp only at hcl hdt
      subst hcl hdt
      exact PySem.W.kia_tup (PySem.W.handS_kitx_exc hC.hg hC.hk hC.hs hC.hd hC.ha hC.hn hC.ht hC.hm) I.kIn J hg e (fun z => nomatch z) fun tk => ⟨.bl b, H, I.kept (t' := tk) fun _ _ z => z, rfl, q⟩
end
section
variable {K : PySem.W.Frag} {F H : Hp} {S : FP} {σ : L2.St} {ρ : DL.Env} {W : XK}
@[simp] def dIsX (K : PySem.W.Frag) (i : Nat) (cv : Value) : ET := fun ρ q _ => match ρ[i]? with
  | some (some (.ox (.ref D) none)) => ExcC K D ∧ ∃ b, PySem.W.kitOne K (.ref D) cv = some b ∧ q (.fr (.bool b)) ρ
  | _ => False
@[simp] def dIsXT (K : PySem.W.Frag) (i : Nat) (cvs : List Value) : ET := fun ρ q _ => match ρ[i]? with
  | some (some (.ox (.ref D) none)) => ExcC K D ∧ ∃ b, PySem.W.kitAny K (.ref D) cvs = some b ∧ q (.fr (.bool b)) ρ
  | _ => False
theorem sim_isX {i : Nat} {c : V} {cv : Value} (hc : ∀ u, RelV c u → u = cv) : Sim K W (tCB (rIsX K) (tCons (tVar i) (tCons (tC c) tNil))) (dIsX K i cv) := fun F H σ ρ S q x Q st h p _ => by
  unfold dIsX at h
  split at h
  · rename_i D e
    obtain ⟨hC, b, hk, hq⟩ := h
    obtain ⟨v, S1, S2, hv, _, _, _, r, _⟩ := st.sl.take e
    obtain ⟨a, d, rfl, _, _, ha, hx⟩ := r
    have hd : d = none := by
      cases d with
      | none => rfl
      | some dd => exact hx.elim
    subst hd
    exact ⟨.ref a, hv, a, D, c, cv, b, rfl, ha, hC, hc, hk, p (.fr (.bool b)) _ ρ F H (fun _ => False) S st (scal_bl F) (fun _ z => z.elim) Stp.refl (fun a z => z.elim (fun y => y.elim) .inl) hq⟩
  · exact h.elim
/-- a tuple of classes, as arguments -/
def tCs : List Addr → TA
  | [] => tNil
  | C :: cs => tCons (tC (.ref C)) (tCs cs)
theorem tcs_run {cs : List Addr} {Q : List V → Hp → Prop} (h : Q (cs.map V.ref) H) : tCs cs σ H Q := by
  induction cs generalizing Q with
  | nil => exact h
  | cons C cs ih => exact ih (Q := fun vs H1 => Q (V.ref C :: vs) H1) h
theorem vals_refs : ∀ {cs : List Addr} {us : List Value}, Vals (cs.map V.ref) us → us = cs.map Value.ref
  | [], us, h => by cases h; rfl
  | C :: cs, us, h => by
    cases h with
    | cons r rr =>
      rw [vals_refs rr]
      cases r
      rfl
theorem sim_isXT {i : Nat} {cs : List Addr} (hl : cs.length ≤ 1000) : Sim K W (tCB (rIsXT K) (tCons (tVar i) (tCons (tTup (tCs cs)) tNil))) (dIsXT K i (cs.map Value.ref)) := fun F H σ ρ S q x Q st h p _ => by
  unfold dIsXT at h
  split at h
  · rename_i D e
    obtain ⟨hC, b, hk, hq⟩ := h
    obtain ⟨v, S1, S2, hv, _, _, _, r, _⟩ := st.sl.take e
    obtain ⟨a, d, rfl, _, fa, ha, hx⟩ := r
    have hd : d = none := by
      cases d with
      | none => rfl
      | some dd => exact hx.elim
    subst hd
    refine ⟨.ref a, hv, tcs_run ⟨by rw [sizeLine_eq, List.length_map]; omega, fun t ht => ?_⟩⟩
    have ne : a ≠ t := ne_of_none ha ht
    refine ⟨a, D, t, _, _, b, rfl, by rw [upd_ne ne]; exact ha, hC, upd_same, fun us hu => vals_refs hu, hk, ?_⟩
    have stn : Stp F H (fun _ => False) F (upd H t (.tup (cs.map V.ref))) := stp_new ht
    exact p (.fr (.bool b)) _ ρ F _ (fun _ => False) (Tg H S) ⟨ex_new1 st.ex ht, Slots.step stn (fun _ _ z => z) st.sl.tight⟩ (scal_bl F) (fun _ z => z.elim) (stn.mono fun _ z => z.elim) (fun a z => z.elim (fun y => y.elim) fun y => .inl y.1) hq
  · exact h.elim
end
end DL
set_option Elab.async false
set_option linter.all false
set_option maxRecDepth 100000
set_option maxHeartbeats 4000000
namespace DL
open PySem PySem.Spec PyProof.Rows L2
/-- a text k times over -/
def repS (z : Str) (k : Int) : Str := ⟨(List.replicate k.toNat z.cps).foldl (· ++ ·) #[]⟩
theorem fold_size {α : Type} (x : Array α) : ∀ (n : Nat) (a : Array α), ((List.replicate n x).foldl (· ++ ·) a).size = a.size + x.size * n
  | 0, a => by simp
  | n + 1, a => by
    rw [List.replicate_succ, List.foldl_cons, fold_size x n, Array.size_append, Nat.mul_succ]
    omega
theorem repS_len (z : Str) (k : Int) : (repS z k).length = z.length * k.toNat := by
  show ((List.replicate k.toNat z.cps).foldl (· ++ ·) #[]).size = z.cps.size * k.toNat
  rw [fold_size]
  simp
def rMulS : R2 := fun x y H Q => ∃ z k, x = .str z ∧ y = .int k ∧ (2 ≤ k ∧ k ≤ 100000) ∧ 1 ≤ z.length ∧ z.length * k.toNat ≤ 1000000 ∧ Q (.str (repS z k)) H
theorem op_mulS {X : Cx} : OpR X (binaryOp .Mult) rMulS := by
  intro pins s σ H x y v u Q I rx ry h
  obtain ⟨z, k, rfl, rfl, ⟨k1, k2⟩, hz, hl, q⟩ := h
  obtain ⟨t, rfl⟩ := rx
  obtain ⟨t', rfl⟩ := ry
  have e1 : (decide (k < -(2 ^ 63 : Int)) || decide (k ≥ 2 ^ 63)) = false := by
    rw [decide_eq_false (by omega), decide_eq_false (by omega)]
    rfl
  have zl : z.length ≤ 1000000 := by
    have : z.length * 1 ≤ z.length * k.toNat := Nat.mul_le_mul_left _ (by omega)
    omega
  have tl : Builtin.Str.tooLong (z.length * k.toNat) = false := by
    unfold Builtin.Str.tooLong
    simp only [sizeLine_eq, gt_iff_lt, decide_eq_false_iff_not]
    omega
  refine P.mul_str e1 (fun _ _ g => ?_) (fun _ _ => tl) ?_
  · have : (100000 : Int) ≥ k := k2
    have h2 : ((2 : Int) ^ 63 - 1) / k ≥ 1000000 := by
      refine Int.le_ediv_of_mul_le (by omega) ?_
      have : (1000000 : Int) * k ≤ 1000000 * 100000 := Int.mul_le_mul_of_nonneg_left k2 (by decide)
      omega
    omega
  · rw [if_neg (by omega)]
    have e2 : (k == 1 || z.length == 0) = false := by
      have a : (k == 1) = false := beq_eq_false_iff_ne.mpr (by omega)
      have b : (z.length == 0) = false := beq_eq_false_iff_ne.mpr (by omega)
      rw [a, b]
      rfl
    rw [e2, if_neg (by decide)]
    have ln : (repS z k).length ≤ sizeLine := by
      rw [repS_len, sizeLine_eq]
      omega
    exact ⟨ln, .str (repS z k), H, I.tok _, ⟨_, rfl⟩, q⟩
section
variable {K : PySem.W.Frag} {F H F1 H1 F2 H2 F' H' : Hp} {S S1 S2 T U : FP} {σ σ' : L2.St} {ρ ρ' : DL.Env} {W : XK}
@[simp] def fMulS : OF := fun os q => match os with
  | [.fr (.str z), .fr (.int k)] => (2 ≤ k ∧ k ≤ 100000) ∧ 1 ≤ z.length ∧ z.length * k.toNat ≤ 1000000 ∧ q (.fr (.str (repS z k)))
  | _ => False
theorem r2_mulS : R2Sim K rMulS fMulS := fun F H o1 o2 x y S q Q e r h p => by
  unfold fMulS at h
  split at h
  · rename_i z k eo
    cases eo
    obtain ⟨S1, S2, r1, r2, _⟩ := owns_two r
    cases (show Dp K F x (.str z) from r1)
    rw [own_int r2]
    exact ⟨z, k, rfl, rfl, h.1, h.2.1, h.2.2.1, rpost_s p e scal_str h.2.2.2⟩
  · exact h.elim
/-- a slice of a text -/
@[simp] def dSlS (t : ET) (l u : OT) : ET := fun ρ q x => t ρ (fun o ρ1 => match o with
  | .fr (.str z) => l ρ1 (fun lo ρ2 => u ρ2 (fun hi ρ3 => z.length ≤ sizeLine ∧ q (.fr (.str (cutS z lo hi))) ρ3) x) x
  | _ => False) x
theorem sim_slS {te : TE} {tl tu : TO} {t : ET} {l u : OT} (ht : Sim K W te t) (hl : SimO K W tl l) (hu : SimO K W tu u) : Sim K W (tSl rSlS te tl tu) (dSlS t l u) := fun F H σ ρ S q x Q st h p px => by
  refine ht F H σ ρ S _ x _ st h (fun o v ρ1 F1 H1 T1 S1 s1 r1 d1 st1 n1 h1 => ?_) px
  have m1 := n1.sub (T := S1) fun _ z => .inr z
  split at h1
  · rename_i z
    have rz : v = .str z := by
      cases (show Dp K F1 v (.str z) from r1)
      rfl
    subst rz
    refine hl F1 H1 σ ρ1 S1 _ x _ s1 h1 (fun lo ρ2 F2 H2 S2 s2 st2 n2 h2 => ?_) (px.after st1 m1)
    have st12 := st1.trans m1 st2
    have n12 : Fresh H S S2 := Fresh.trans st1 m1 n2
    refine hu F2 H2 σ ρ2 S2 _ x _ s2 h2 (fun hi ρ3 F3 H3 S3 s3 st3 n3 h3 => ?_) (px.after st12 n12)
    refine ⟨z, rfl, h3.1, ?_⟩
    exact p (.fr (.str (cutS z lo hi))) _ ρ3 F3 H3 (fun _ => False) S3 s3 (scal_str F3) (fun _ z => z.elim) (st12.trans n12 st3) (fun a z => z.elim (fun y => y.elim) fun y => Fresh.trans st12 n12 n3 a y) h3.2
  · exact h1.elim
end
end DL
set_option Elab.async false
set_option linter.all false
set_option maxRecDepth 100000
set_option maxHeartbeats 4000000
/-! What isinstance answers of own classes of errors. -/
namespace DL
open PySem PySem.Spec PyProof.Rows L2
theorem kit_self {K : PySem.W.Frag} {t : Value} : PySem.W.kitOne K t t = some true := by
  unfold PySem.W.kitOne
  rw [if_pos (beq_self_eq_true t)]
theorem kit_ve {K : PySem.W.Frag} {D : Addr} (h : PySem.W.subIn K (.ref D) (.type "ValueError") = some true) : PySem.W.kitOne K (.ref D) (.type "ValueError") = some true := by
  unfold PySem.W.kitOne
  rw [if_neg (by rw [show ((Value.ref D : Value) == .type "ValueError") = false from rfl]; decide)]
  show (if PySem.W.kitMeta "ValueError" = true then PySem.W.subIn K (.ref D) (.type "ValueError") else none) = some true
  rw [if_pos (by decide +kernel), h]
theorem kit_no {K : PySem.W.Frag} {C D : Addr} (h0 : PySem.W.subIn K (.ref D) (.ref D) = some true) (h1 : PySem.W.subIn K (.ref D) (.ref C) = some false) (h2 : PySem.W.isClsIn K C = true) (h3 : PySem.W.typeIn K (.ref C) = some (.type "type")) :
    PySem.W.kitOne K (.ref D) (.ref C) = some false := by
  have ne : ¬ ((Value.ref D : Value) == .ref C) = true := fun e => by
    have e : D = C := Value.ref.inj (beq_iff_eq.mp e)
    rw [← e, h0] at h1
    cases h1
  have e2 : ((PySem.W.clsIn K C).isSome && PySem.W.typeIn K (.ref C) == some (.type "type")) = true := by
    have h2' : (PySem.W.clsIn K C).isSome = true := h2
    rw [h2', h3] <;> rfl
  unfold PySem.W.kitOne
  rw [if_neg ne]
  show (if ((PySem.W.clsIn K C).isSome && PySem.W.typeIn K (.ref C) == some (.type "type")) = true then PySem.W.subIn K (.ref D) (.ref C) else none) = some false
  rw [if_pos e2, h1]
theorem kit_nil {K : PySem.W.Frag} {t : Value} : PySem.W.kitAny K t [] = some false := rfl
theorem kit_cons {K : PySem.W.Frag} {t c : Value} {cs : List Value} (h : PySem.W.kitOne K t c = some false) (hs : PySem.W.kitAny K t cs = some false) : PySem.W.kitAny K t (c :: cs) = some false := by
  unfold PySem.W.kitAny
  rw [h]
  exact hs
theorem kit_none6 {K : PySem.W.Frag} {t a b c d e f : Value} (h1 : PySem.W.kitOne K t a = some false) (h2 : PySem.W.kitOne K t b = some false) (h3 : PySem.W.kitOne K t c = some false) (h4 : PySem.W.kitOne K t d = some false) (h5 : PySem.W.kitOne K t e = some false) (h6 : PySem.W.kitOne K t f = some false) :
    PySem.W.kitAny K t [a, b, c, d, e, f] = some false := kit_cons h1 (kit_cons h2 (kit_cons h3 (kit_cons h4 (kit_cons h5 (kit_cons h6 kit_nil)))))
end DL
set_option Elab.async false
set_option linter.all false
set_option maxRecDepth 100000
set_option maxHeartbeats 4000000
namespace DL
open PySem PySem.Spec PyProof.Rows L2
section
variable {K : PySem.W.Frag} {F H : Hp} {S : FP}
/-- tuple(xs) of a list -/
@[simp] def fTupOf : OF := fun os q => match os with
  | [o] => match lstO o with
    | some xs => q (.ot xs)
    | none => False
  | _ => False
def rTupL (K : PySem.W.Frag) : List V → Hp → VK → Prop := fun xs H Q => ∃ p ys, xs = [.ref p] ∧ SqL K H p ys ∧ ∀ l, H l = none → Q (.ref l) (upd H l (.tup ys))
theorem call_tupL {X : Cx} (hK : X.K = K) : CallR X (.type "tuple") (rTupL K) := by
  subst hK
  intro pins s σ H xs us Q I r h
  obtain ⟨p, ys, e, hs, q⟩ := h
  exact call_tuple_of pins s σ H xs us Q I r ⟨p, ys, e, .inl ⟨hs, q⟩⟩
theorem cs_tupOf : CSim K (rTupL K) fTupOf := fun F H os vs S q Q e r h p => by
  unfold fTupOf at h
  split at h
  · rename_i o
    obtain ⟨x, rfl, r1⟩ := owns_inv1 r
    split at h
    · rename_i xs ex
      obtain ⟨l, vs, rfl, h1, q1⟩ := lst_ok e r1 ex
      exact ⟨l, vs, rfl, h1, fun m hm => rpost_newT p e q1 (fun _ z => z) hm h⟩
    · exact h.elim
  · exact h.elim
end
end DL
set_option Elab.async false
set_option linter.all false
set_option maxRecDepth 100000
set_option maxHeartbeats 4000000
namespace K57
open PySem PySem.Spec PyProof.Rows L2 DL
def topS (i : Nat) : Stmt := PySem.Challenge.pw_sinceply_k57_nets_misread.main.body.getD i (.Pass ⟨0, 0, 0, 0⟩)
/- is_whole: 0 thing -/
def bd_is_whole : DT :=
  (dRet (dAndV (dIsi "int" (dVar 0)) (dNotV (dIsi "bool" (dVar 0)))))
/- is_many: 0 thing -/
def bd_is_many (w_is_whole : WF) : DT :=
  (dRet (dAndV (dCall 1 w_is_whole [] (dConsR (dVar 0) dNilR)) (dChain cLe cLe (dC (.int 1)) (dVar 0) (dC (.int 10)))))
/- is_place: 0 n, 1 thing -/
def bd_is_place (w_is_whole : WF) : DT :=
  (dRet (dAndV (dCall 1 w_is_whole [] (dConsR (dVar 1) dNilR)) (dChain cLe cLt (dC (.int 0)) (dVar 1) (dVar 0))))
/- is_moment: 0 thing -/
def bd_is_moment (w_is_whole : WF) : DT :=
  (dRet (dAndV (dCall 1 w_is_whole [] (dConsR (dVar 0) dNilR)) (dChain cLe cLe (dC (.int 0)) (dVar 0) (dC (.int 1000000000000000000000000000000)))))
/- is_meeting: 0 n, 1 thing -/
def bd_is_meeting (w_is_moment : WF) (w_is_place : WF) : DT :=
  (dSeq (dIfS (dOr (dNot (dTest (dIsi "tuple" (dVar 1)))) (dOr (dTest (dOp (fEqB true) (dCB fLen (dCons (dVar 1) dNil)) (dC (.int 3)))) (dNot (dTest (dCall 1 w_is_moment [] (dConsR (dOp fIx (dVar 1) (dC (.int 0))) dNilR)))))) (dRet (dC (.bool false))) dNext)
  (dRet (dAndV (dCall 2 w_is_place [] (dConsR (dVar 0) (dConsR (dOp fIx (dVar 1) (dC (.int 1))) dNilR))) (dCall 2 w_is_place [] (dConsR (dVar 0) (dConsR (dOp fIx (dVar 1) (dC (.int 2))) dNilR))))))
/- is_tie: 0 n, 1 thing -/
def bd_is_tie (w_is_meeting : WF) : DT :=
  (dRet (dAndV (dCall 2 w_is_meeting [] (dConsR (dVar 0) (dConsR (dVar 1) dNilR))) (dOp cLe (dOp fIx (dVar 1) (dC (.int 1))) (dOp fIx (dVar 1) (dC (.int 2))))))
/- is_record: 0 n, 1 thing, 2 at, 3 tie -/
def bd_is_record (w_is_tie : WF) : DT :=
  (dSeq (dIfS (dOr (dNot (dTest (dIsi "list" (dVar 1)))) (dTest (dOp cGt (dCB fLen (dCons (dVar 1) dNil)) (dC (.int 60))))) (dRet (dC (.bool false))) dNext)
  (dSeq (dIfS (dNot (dTest (dCB fAll (dCons (dLc (dItems (dVar 1)) (dName 3) dYes (dCall 2 w_is_tie [] (dConsR (dVar 0) (dConsR (dVar 3) dNilR))) [3]) dNil)))) (dRet (dC (.bool false))) dNext)
  (dRet (dCB fAll (dCons (dLc (dRng2 (dCons (dC (.int 1)) (dCons (dCB fLen (dCons (dVar 1) dNil)) dNil))) (dName 2) dYes (dOp cLt (dOp fIx (dOp fIx (dVar 1) (dOp gSub (dVar 2) (dC (.int 1)))) (dC (.int 0))) (dOp fIx (dOp fIx (dVar 1) (dVar 2)) (dC (.int 0)))) [2]) dNil)))))
/- joined: 0 marks, 1 a, 2 b, 3 low, 4 high, 5 mark -/
def bd_joined : DT :=
  (dSeq (dAsg (dCB fMin2 (dCons (dOp fIx (dVar 0) (dVar 1)) (dCons (dOp fIx (dVar 0) (dVar 2)) dNil))) (dName 3))
  (dSeq (dAsg (dCB fMax2 (dCons (dOp fIx (dVar 0) (dVar 1)) (dCons (dOp fIx (dVar 0) (dVar 2)) dNil))) (dName 4))
  (dRet (dLc (dItems (dVar 0)) (dName 5) dYes (dIf (dTest (dOp (fEqB false) (dVar 5) (dVar 4))) (dVar 3) (dVar 5)) [5]))))
/- is_depth: 0 thing -/
def bd_is_depth (w_is_whole : WF) : DT :=
  (dRet (dAndV (dCall 1 w_is_whole [] (dConsR (dVar 0) dNilR)) (dChain cLe cLe (dC (.int 1)) (dVar 0) (dC (.int 6)))))
/- look_at_layers: 0 k -/
def bd_look_at_layers (w_is_depth : WF) : DT :=
  (dIfS (dNot (dTest (dCall 1 w_is_depth [] (dConsR (dVar 0) dNilR)))) dNever dNext)
/- layer_for: 0 marks, 1 a, 2 b, 3 j, 4 row -/
def bd_layer_for : DT :=
  (dSeq (dFor (dEnum (dVar 0)) (dGTup 2 (dGCons (dName 3) (dGCons (dName 4) dGNil))) (dIfS (dTest (dOp (fEqB true) (dOp fIx (dVar 4) (dVar 1)) (dOp fIx (dVar 4) (dVar 2)))) (dRet (dOp fAdd (dVar 3) (dC (.int 1)))) dNext))
  (dRet (dC (.int 0))))
/- layered: 0 n, 1 record, 2 k, 3 marks, 4 numbers, 5 moment, 6 a, 7 b, 8 j -/
def bd_layered (w_look_at_layers : WF) (w_layer_for : WF) (w_joined : WF) : DT :=
  (dSeq (dDrop (dCall 1 w_look_at_layers [] (dConsR (dVar 2) dNilR)))
  (dSeq (dAsg (dLc (dRng1 (dCons (dVar 2) dNil)) (dName 8) dYes (dFrz (dLstRg1 (dVar 0))) [8]) (dName 3))
  (dSeq (dAsg (dLst dNil) (dName 4))
  (dSeq (dFor (dRev (dVar 1)) (dGTup 3 (dGCons (dName 5) (dGCons (dName 6) (dGCons (dName 7) dGNil)))) (dSeq (dAsg (dBor (dCall 3 w_layer_for [] (dConsR (dVar 3) (dConsR (dVar 6) (dConsR (dVar 7) dNilR))))) (dName 8))
    (dSeq (dIfS (dTest (dOp cGt (dVar 8) (dC (.int 0)))) (dAsg (dFrz (dCall 3 w_joined [] (dConsR (dIxO 3 (dOp gSub (dVar 8) (dC (.int 1)))) (dConsR (dVar 6) (dConsR (dVar 7) dNilR))))) (dSetI 3 (dOp gSub (dVar 8) (dC (.int 1))))) dNext)
    (dDrop (dMutL 4 mAppend (dCons (dVar 8) dNil))))))
  (dRet (dLstRev (dMove 4)))))))
/- is_count: 0 thing, 1 most -/
def bd_is_count : DT :=
  (dRet (dAndV (dIsi "int" (dVar 0)) (dAndV (dNotV (dIsi "bool" (dVar 0))) (dChain cLe cLe (dC (.int 1)) (dVar 0) (dVar 1)))))
/- is_net: 0 thing, 1 n, 2 k, 3 ties -/
def bd_is_net (w_is_count : WF) (w_is_record : WF) (w_layered : WF) : DT :=
  (dSeq (dIfS (dOr (dNot (dTest (dIsi "tuple" (dVar 0)))) (dTest (dOp (fEqB true) (dCB fLen (dCons (dVar 0) dNil)) (dC (.int 3))))) (dRet (dC (.bool false))) dNext)
  (dSeq (dAsg (dVar 0) (dGTup 3 (dGCons (dName 1) (dGCons (dName 2) (dGCons (dName 3) dGNil)))))
  (dSeq (dIfS (dOr (dNot (dTest (dCall 2 w_is_count [] (dConsR (dVar 1) (dConsR (dC (.int 10)) dNilR))))) (dOr (dNot (dTest (dCall 2 w_is_count [] (dConsR (dVar 2) (dConsR (dC (.int 6)) dNilR))))) (dNot (dTest (dCall 2 w_is_record [] (dConsR (dVar 1) (dConsR (dVar 3) dNilR))))))) (dRet (dC (.bool false))) dNext)
  (dRet (dOp (fInB true) (dC (.int 0)) (dFrz (dCall 3 w_layered [] (dConsR (dVar 1) (dConsR (dVar 3) (dConsR (dVar 2) dNilR))))))))))
/- tie_text: 0 tie, 1 moment, 2 a, 3 b -/
def bd_tie_text : DT :=
  (dSeq (dAsg (dVar 0) (dGTup 3 (dGCons (dName 1) (dGCons (dName 2) (dGCons (dName 3) dGNil)))))
  (dRet (dOp fAdd (dOp fAdd (dOp fAdd (dOp fAdd (dCB fStr (dCons (dVar 1) dNil)) (dC (.str ":"))) (dCB fStr (dCons (dVar 2) dNil))) (dC (.str "-"))) (dCB fStr (dCons (dVar 3) dNil)))))
/- record_text: 0 record, 1 tie -/
def bd_record_text (w_tie_text : WF) : DT :=
  (dSeq (dIfS (dTest (dOp (fEqB false) (dVar 0) (dFrz (dLst dNil)))) (dRet (dC (.str "none"))) dNext)
  (dRet (dM1 fJoin (dC (.str "; ")) (dLc (dItems (dVar 0)) (dName 1) dYes (dCall 1 w_tie_text [] (dConsR (dVar 1) dNilR)) [1]))))
/- net_text: 0 net, 1 n, 2 k, 3 ties -/
def bd_net_text (C_NoNet : Addr) (w_is_net : WF) (w_record_text : WF) : DT :=
  (dSeq (dIfS (dNot (dTest (dCall0 1 w_is_net (dConsR (dVar 0) dNilR)))) (dRaise C_NoNet) dNext)
  (dSeq (dAsg (dVar 0) (dGTup 3 (dGCons (dName 1) (dGCons (dName 2) (dGCons (dName 3) dGNil)))))
  (dRet (dOp fAdd (dOp fAdd (dOp fAdd (dOp fAdd (dCB fStr (dCons (dVar 1) dNil)) (dC (.str " "))) (dCB fStr (dCons (dVar 2) dNil))) (dC (.str " "))) (dCall0 1 w_record_text (dConsR (dVar 3) dNilR))))))
/- number_in: 0 text, 1 sign -/
def bd_number_in (C_NoText : Addr) : DT :=
  (dSeq (dIfS (dOr (dNot (dTest (dChain cLe cLe (dC (.int 1)) (dCB fLen (dCons (dVar 0) dNil)) (dC (.int 60))))) (dAnd (dTest (dOp (fEqB false) (dOp fIx (dVar 0) (dC (.int 0))) (dC (.str "0")))) (dTest (dOp (fEqB true) (dVar 0) (dC (.str "0")))))) (dRaise C_NoText) dNext)
  (dSeq (dFor (dSigns (dVar 0)) (dName 1) (dIfS (dTest (dOp (fInB true) (dVar 1) (dC (.str "0123456789")))) (dRaise C_NoText) dNext))
  (dRet (dCB fInt1 (dCons (dVar 0) dNil)))))
/- tie_in: 0 text, 1 moment, 2 colon, 3 ends, 4 a, 5 dash, 6 b -/
def bd_tie_in (w_number_in : WF) : DT :=
  (dSeq (dAsg (dM1 fPart (dVar 0) (dC (.str ":"))) (dGTup 3 (dGCons (dName 1) (dGCons (dName 2) (dGCons (dName 3) dGNil)))))
  (dSeq (dAsg (dM1 fPart (dVar 3) (dC (.str "-"))) (dGTup 3 (dGCons (dName 4) (dGCons (dName 5) (dGCons (dName 6) dGNil)))))
  (dRet (dFrz (dTup (dCons (dCall 1 w_number_in [] (dConsR (dVar 1) dNilR)) (dCons (dCall 1 w_number_in [] (dConsR (dVar 4) dNilR)) (dCons (dCall 1 w_number_in [] (dConsR (dVar 6) dNilR)) dNil))))))))
/- read_record: 0 n, 1 text, 2 record, 3 part -/
def bd_read_record (C_NoText : Addr) (w_tie_in : WF) (w_is_record : WF) : DT :=
  (dSeq (dIfS (dTest (dOp (fEqB false) (dVar 1) (dC (.str "none")))) (dRet (dLst dNil)) dNext)
  (dSeq (dAsg (dLcR (dItems (dFrz (dM1 fSplit (dVar 1) (dC (.str "; "))))) (dName 3) (dCall 1 w_tie_in [] (dConsR (dVar 3) dNilR)) [3]) (dName 2))
  (dSeq (dIfS (dBorT (dNot (dTest (dCall0 2 w_is_record (dConsR (dVar 0) (dConsR (dVar 2) dNilR)))))) (dRaise C_NoText) dNext)
  (dRet (dMove 2)))))
/- read_net: 0 text, 1 n, 2 k, 3 net, 4 places, 5 blank, 6 rest, 7 layers, 8 gap, 9 ties -/
def bd_read_net (C_NoText : Addr) (w_number_in : WF) (w_is_many : WF) (w_read_record : WF) (w_is_net : WF) : DT :=
  (dSeq (dAsg (dM1 fPart (dVar 0) (dC (.str " "))) (dGTup 3 (dGCons (dName 4) (dGCons (dName 5) (dGCons (dName 6) dGNil)))))
  (dSeq (dAsg (dM1 fPart (dVar 6) (dC (.str " "))) (dGTup 3 (dGCons (dName 7) (dGCons (dName 8) (dGCons (dName 9) dGNil)))))
  (dSeq (dAsg (dCall 1 w_number_in [] (dConsR (dVar 4) dNilR)) (dName 1))
  (dSeq (dAsg (dCall 1 w_number_in [] (dConsR (dVar 7) dNilR)) (dName 2))
  (dSeq (dIfS (dNot (dTest (dCall0 1 w_is_many (dConsR (dVar 1) dNilR)))) (dRaise C_NoText) dNext)
  (dSeq (dAsg (dTup (dCons (dVar 1) (dCons (dVar 2) (dCons (dCall 2 w_read_record [] (dConsR (dVar 1) (dConsR (dVar 9) dNilR))) dNil)))) (dName 3))
  (dSeq (dIfS (dBorT (dNot (dTest (dCall0 1 w_is_net (dConsR (dVar 3) dNilR))))) (dRaise C_NoText) dNext)
  (dRet (dMove 3)))))))))
/- _law_mixed: 0 cell, 1 k, 2 number -/
def bd__law_mixed : DT :=
  (dSeq (dAsg (dOp gMod (dOp fMul (dOp fAdd (dOp fAdd (dOp gMod (dVar 0) (dC (.int 2147483629))) (dOp fMul (dC (.int 7919)) (dVar 1))) (dC (.int 11))) (dC (.int 48271))) (dC (.int 2147483647))) (dName 2))
  (dSeq (dAsg (dOp gMod (dOp fAdd (dOp gMod (dOp fMul (dVar 2) (dVar 2)) (dC (.int 2147483629))) (dOp fMul (dC (.int 104729)) (dVar 1))) (dC (.int 2147483629))) (dName 2))
  (dRet (dOp gMod (dOp fMul (dVar 2) (dC (.int 39373))) (dC (.int 2147483647))))))
/- _law_numbers: 0 cell, 1 many, 2 base, 3 found, 4 left, 5 k, 6 number, 7 turns -/
def bd__law_numbers (w__law_mixed : WF) : DT :=
  (dSeq (dAsg (dLst dNil) (dName 3))
  (dSeq (dAsg (dOp gSub (dVar 0) (dOp gPow (dC (.int 10)) (dC (.int 18)))) (dName 4))
  (dSeq (dFor (dRng1 (dCons (dVar 1) dNil)) (dName 5) (dSeq (dAsg (dVar 4) (dName 6))
    (dSeq (dIfS (dTest (dOp cGt (dVar 4) (dC (.int 0)))) (dAsg (dOp gDiv (dVar 4) (dVar 2)) (dName 4)) (dSeq (dAsg (dC (.int 0)) (dName 6))
      (dSeq (dAsg (dC (.int 0)) (dName 7))
      (dWhile (dTest (dOp cLt (dOp fMul (dVar 7) (dC (.int 30))) (dOp fAdd (dBits (dVar 2)) (dC (.int 8))))) (dSeq (dAsg (dOp fAdd (dOp fMul (dVar 6) (dC (.int 2147483647))) (dCall 2 w__law_mixed [] (dConsR (dVar 0) (dConsR (dOp fAdd (dOp fMul (dC (.int 8)) (dVar 5)) (dVar 7)) dNilR)))) (dName 6))
        (dAsg (dOp fAdd (dVar 7) (dC (.int 1))) (dName 7)))))))
    (dDrop (dMutL 3 mAppend (dCons (dOp gMod (dVar 6) (dVar 2)) dNil))))))
  (dRet (dMove 3)))))
/- _law_ends: 0 n, 1 kind, 2 one, 3 other, 4 a -/
def bd__law_ends : DT :=
  (dSeq (dAsg (dOp gMod (dVar 2) (dVar 0)) (dName 4))
  (dSeq (dIfS (dTest (dOp (fEqB false) (dVar 1) (dC (.int 0)))) (dRet (dFrz (dTup (dCons (dVar 4) (dCons (dOp gMod (dVar 3) (dVar 0)) dNil))))) dNext)
  (dSeq (dIfS (dTest (dOp (fEqB false) (dVar 1) (dC (.int 1)))) (dRet (dFrz (dTup (dCons (dOp gMod (dVar 2) (dCB fMin2 (dCons (dVar 0) (dCons (dC (.int 3)) dNil)))) (dCons (dOp gMod (dVar 3) (dCB fMin2 (dCons (dVar 0) (dCons (dC (.int 2)) dNil)))) dNil))))) dNext)
  (dSeq (dIfS (dTest (dOp (fEqB false) (dVar 1) (dC (.int 2)))) (dRet (dFrz (dTup (dCons (dVar 4) (dCons (dOp gMod (dOp fAdd (dOp fAdd (dVar 4) (dC (.int 1))) (dOp gDiv (dOp gMod (dVar 3) (dC (.int 5))) (dC (.int 4)))) (dVar 0)) dNil))))) dNext)
  (dRet (dFrz (dTup (dCons (dVar 4) (dCons (dOp gMod (dOp fAdd (dVar 4) (dOp fMul (dC (.int 2)) (dOp gMod (dVar 3) (dVar 0)))) (dVar 0)) dNil)))))))))
/- _law_record: 0 numbers, 1 most, 2 n, 3 many, 4 wide, 5 moment, 6 record, 7 k, 8 a, 9 b -/
def bd__law_record (w__law_ends : WF) : DT :=
  (dSeq (dAsg (dOp fAdd (dC (.int 1)) (dOp gMod (dOp fIx (dVar 0) (dC (.int 0))) (dC (.int 6)))) (dName 2))
  (dSeq (dIfS (dTest (dOp (fEqB false) (dOp gMod (dOp gDiv (dOp fIx (dVar 0) (dC (.int 0))) (dC (.int 6))) (dC (.int 8))) (dC (.int 1)))) (dAsg (dOp fAdd (dC (.int 7)) (dOp gMod (dOp gDiv (dOp fIx (dVar 0) (dC (.int 0))) (dC (.int 48))) (dC (.int 4)))) (dName 2)) dNext)
  (dSeq (dAsg (dOp gMod (dOp fIx (dVar 0) (dC (.int 1))) (dC (.int 13))) (dName 3))
  (dSeq (dIfS (dTest (dOp (fEqB false) (dOp gMod (dOp gDiv (dOp fIx (dVar 0) (dC (.int 1))) (dC (.int 13))) (dC (.int 8))) (dC (.int 1)))) (dAsg (dOp fAdd (dC (.int 13)) (dOp gMod (dOp gDiv (dOp fIx (dVar 0) (dC (.int 1))) (dC (.int 104))) (dC (.int 48)))) (dName 3)) dNext)
  (dSeq (dAsg (dOp fIx (dFrz (dLst (dCons (dC (.int 1)) (dCons (dC (.int 4)) (dCons (dOp gPow (dC (.int 10)) (dC (.int 28))) dNil))))) (dOp gMod (dOp fIx (dVar 0) (dC (.int 2))) (dC (.int 3)))) (dName 4))
  (dSeq (dAsg (dOp fIx (dFrz (dLst (dCons (dC (.int 0)) (dCons (dOp gMod (dOp gDiv (dOp fIx (dVar 0) (dC (.int 2))) (dC (.int 12))) (dC (.int 100))) (dCons (dOp gMod (dOp fIx (dVar 0) (dC (.int 3))) (dOp gPow (dC (.int 10)) (dC (.int 29)))) dNil))))) (dOp gMod (dOp gDiv (dOp fIx (dVar 0) (dC (.int 2))) (dC (.int 3))) (dC (.int 3)))) (dName 5))
  (dSeq (dAsg (dLst dNil) (dName 6))
  (dSeq (dFor (dRng1 (dCons (dCB fMin3 (dCons (dVar 3) (dCons (dVar 1) (dCons (dOp gDiv (dOp gSub (dCB fLen (dCons (dVar 0) dNil)) (dC (.int 4))) (dC (.int 3))) dNil)))) dNil)) (dName 7) (dSeq (dAsg (dCall 4 w__law_ends [] (dConsR (dVar 2) (dConsR (dOp gMod (dOp fIx (dVar 0) (dC (.int 3))) (dC (.int 4))) (dConsR (dOp fIx (dVar 0) (dOp fAdd (dC (.int 4)) (dOp fMul (dC (.int 3)) (dVar 7)))) (dConsR (dOp fIx (dVar 0) (dOp fAdd (dC (.int 5)) (dOp fMul (dC (.int 3)) (dVar 7)))) dNilR))))) (dGTup 2 (dGCons (dName 8) (dGCons (dName 9) dGNil))))
    (dSeq (dDrop (dMutL 6 mAppend (dCons (dFrz (dTup (dCons (dVar 5) (dCons (dCB fMin2 (dCons (dVar 8) (dCons (dVar 9) dNil))) (dCons (dCB fMax2 (dCons (dVar 8) (dCons (dVar 9) dNil))) dNil))))) dNil)))
    (dAsg (dOp fAdd (dOp fAdd (dVar 5) (dC (.int 1))) (dOp gMod (dOp fIx (dVar 0) (dOp fAdd (dC (.int 6)) (dOp fMul (dC (.int 3)) (dVar 7)))) (dVar 4))) (dName 5)))))
  (dRet (dFrz (dTup (dCons (dVar 2) (dCons (dMove 6) dNil)))))))))))))
/- _law_depth: 0 number -/
def bd__law_depth : DT :=
  (dRet (dOp fIx (dFrz (dLst (dCons (dOp fAdd (dC (.int 1)) (dOp gMod (dVar 0) (dC (.int 4)))) (dCons (dOp fAdd (dC (.int 1)) (dOp gMod (dOp gDiv (dVar 0) (dC (.int 32))) (dC (.int 6)))) dNil)))) (dCB fInt1 (dCons (dOp (fEqB false) (dOp gMod (dVar 0) (dC (.int 8))) (dC (.int 1))) dNil))))
/- _law_joined: 0 n, 1 ties, 2 a, 3 b, 4 marks, 5 moment, 6 one, 7 other, 8 old, 9 new, 10 mark -/
def bd__law_joined : DT :=
  (dSeq (dAsg (dFrz (dLstRg1 (dVar 0))) (dName 4))
  (dSeq (dFor (dItems (dVar 1)) (dGTup 3 (dGCons (dName 5) (dGCons (dName 6) (dGCons (dName 7) dGNil)))) (dSeq (dAsg (dOp fIx (dVar 4) (dVar 6)) (dName 8))
    (dSeq (dAsg (dOp fIx (dVar 4) (dVar 7)) (dName 9))
    (dAsg (dFrz (dLc (dItems (dVar 4)) (dName 10) dYes (dIf (dTest (dOp (fEqB false) (dVar 10) (dVar 8))) (dVar 9) (dVar 10)) [10])) (dName 4)))))
  (dRet (dOp (fEqB false) (dOp fIx (dVar 4) (dVar 2)) (dOp fIx (dVar 4) (dVar 3))))))
/- _law_numbered: 0 n, 1 record, 2 k, 3 numbers, 4 at, 5 j, 6 ties, 7 later -/
def bd__law_numbered (w__law_joined : WF) : DT :=
  (dSeq (dAsg (dOp fMul (dLst (dCons (dC (.int 0)) dNil)) (dCB fLen (dCons (dVar 1) dNil))) (dName 3))
  (dSeq (dFor (dRng3 (dCons (dOp gSub (dCB fLen (dCons (dVar 1) dNil)) (dC (.int 1))) (dCons (dUn fNeg (dC (.int 1))) (dCons (dUn fNeg (dC (.int 1))) dNil)))) (dName 4) (dFor (dRng3 (dCons (dVar 2) (dCons (dC (.int 0)) (dCons (dUn fNeg (dC (.int 1))) dNil)))) (dName 5) (dSeq (dAsg (dFrz (dLc (dRng2 (dCons (dOp fAdd (dVar 4) (dC (.int 1))) (dCons (dCB fLen (dCons (dVar 1) dNil)) dNil))) (dName 7) (dBorT (dTest (dOp (fEqB false) (dOp fIx (dVar 3) (dVar 7)) (dVar 5)))) (dOp fIx (dVar 1) (dVar 7)) [7])) (dName 6))
      (dIfS (dNot (dTest (dCall 4 w__law_joined [] (dConsR (dVar 0) (dConsR (dVar 6) (dConsR (dOp fIx (dOp fIx (dVar 1) (dVar 4)) (dC (.int 1))) (dConsR (dOp fIx (dOp fIx (dVar 1) (dVar 4)) (dC (.int 2))) dNilR))))))) (dAsg (dVar 5) (dSetI 3 (dVar 4))) dNext))))
  (dRet (dMove 3))))
/- _law_text: 0 record, 1 tie -/
def bd__law_text : DT :=
  (dSeq (dIfS (dTest (dOp (fEqB false) (dVar 0) (dFrz (dLst dNil)))) (dRet (dC (.str "none"))) dNext)
  (dRet (dM1 fJoin (dC (.str "; ")) (dLc (dItems (dVar 0)) (dName 1) dYes (dOp fAdd (dOp fAdd (dOp fAdd (dOp fAdd (dCB fStr (dCons (dOp fIx (dVar 1) (dC (.int 0))) dNil)) (dC (.str ":"))) (dCB fStr (dCons (dOp fIx (dVar 1) (dC (.int 1))) dNil))) (dC (.str "-"))) (dCB fStr (dCons (dOp fIx (dVar 1) (dC (.int 2))) dNil))) [1]))))
/- _law_read: 0 text, 1 caught, 2 found, 3 e -/
def bd__law_read (K : PySem.W.Frag) (C_PlyError : Addr) (C_NoText : Addr) (C_Clash : Addr) (C_NoLayers : Addr) (C_NoNet : Addr) (C_NoPlaces : Addr) (C_NoTies : Addr) (w_read_net : WF) : DT :=
  (dSeq (dAsg (dC .none) (dName 1))
  (dSeq (dAsg (dC .none) (dName 2))
  (dSeq (dTryA K (.ref C_PlyError) 3 1 2 1 w_read_net (dConsR (dVar 0) dNilR))
  (dSeq (dIfS (dTest (dIsNV false 1)) (dRet (dMove 2)) dNext)
  (dSeq (dIfS (dOr (dNot (dTest (dIsX K 1 (.ref C_NoText)))) (dTest (dIsXT K 1 ([C_Clash, C_NoLayers, C_NoNet, C_NoPlaces, C_NoTies].map Value.ref)))) (dRet (dC (.str "odd"))) dNext)
  (dRet (dC .none)))))))
/- _law_due: 0 n, 1 k, 2 ties, 3 tie -/
def bd__law_due (w__law_numbered : WF) : DT :=
  (dSeq (dIfS (dOr (dNot (dTest (dChain cLe cLe (dC (.int 1)) (dVar 0) (dC (.int 10))))) (dNot (dTest (dChain cLe cLe (dC (.int 1)) (dVar 1) (dC (.int 6)))))) (dRet (dC .none)) dNext)
  (dSeq (dFor (dItems (dVar 2)) (dName 3) (dIfS (dTest (dOp cGe (dOp fIx (dVar 3) (dC (.int 2))) (dVar 0))) (dRet (dC .none)) dNext))
  (dSeq (dIfS (dTest (dOp (fInB false) (dC (.int 0)) (dFrz (dCall 3 w__law_numbered [] (dConsR (dVar 0) (dConsR (dVar 2) (dConsR (dVar 1) dNilR))))))) (dRet (dC .none)) dNext)
  (dRet (dFrz (dTup (dCons (dVar 0) (dCons (dVar 1) (dCons (dVar 2) dNil)))))))))
/- _law_bad: 0 n, 1 k, 2 ties, 3 number, 4 text, 5 some -/
def bd__law_bad (w__law_text : WF) : DT :=
  (dSeq (dAsg (dCall 1 w__law_text [] (dConsR (dVar 2) dNilR)) (dName 4))
  (dSeq (dAsg (dFrz (dLst (dCons (dOp fAdd (dOp fAdd (dCB fStr (dCons (dVar 0) dNil)) (dC (.str " "))) (dCB fStr (dCons (dVar 1) dNil))) (dCons (dOp fAdd (dOp fAdd (dOp fAdd (dOp fAdd (dCB fStr (dCons (dVar 0) dNil)) (dC (.str "  "))) (dCB fStr (dCons (dVar 1) dNil))) (dC (.str " "))) (dVar 4)) (dCons (dVar 4) (dCons (dOp fAdd (dOp fAdd (dCB fStr (dCons (dVar 1) dNil)) (dC (.str " "))) (dVar 4)) dNil)))))) (dName 5))
  (dSeq (dAsg (dFrz (dOp fAdd (dVar 5) (dLst (dCons (dC (.str "")) (dCons (dC (.str "none")) (dCons (dC (.str "3 2")) (dCons (dC (.str "3 2 ")) dNil))))))) (dName 5))
  (dSeq (dAsg (dFrz (dOp fAdd (dVar 5) (dLst (dCons (dOp fAdd (dOp fAdd (dOp fAdd (dC (.str "0")) (dCB fStr (dCons (dVar 0) dNil))) (dC (.str " 1 "))) (dVar 4)) (dCons (dOp fAdd (dCB fStr (dCons (dVar 0) dNil)) (dC (.str " 01 none"))) (dCons (dC (.str "1 0 none")) (dCons (dC (.str "11 2 none")) (dCons (dC (.str "-1 2 none")) (dCons (dC (.str "2 7 none")) dNil))))))))) (dName 5))
  (dRet (dOp fIx (dFrz (dOp fAdd (dVar 5) (dLst (dCons (dOp fAdd (dOp fAdd (dOp fAdd (dOp fAdd (dOp fAdd (dCB fStr (dCons (dVar 0) dNil)) (dC (.str " "))) (dCB fStr (dCons (dVar 1) dNil))) (dC (.str " "))) (dVar 4)) (dC (.str " "))) (dCons (dC (.str "1 1 0:0-0")) dNil))))) (dOp gMod (dVar 3) (dC (.int 16)))))))))
/- _law_no_net: 0 n, 1 k, 2 ties, 3 record, 4 number, 5 some -/
def bd__law_no_net : DT :=
  (dSeq (dAsg (dLst (dCons (dFrz (dTup (dCons (dVar 0) (dCons (dVar 1) dNil)))) (dCons (dFrz (dTup (dCons (dVar 0) (dCons (dVar 1) (dCons (dVar 2) (dCons (dC (.int 0)) dNil)))))) (dCons (dFrz (dLst (dCons (dVar 0) (dCons (dVar 1) (dCons (dFrz (dCB fList (dCons (dVar 2) dNil))) dNil))))) (dCons (dFrz (dTup (dCons (dVar 0) (dCons (dVar 1) (dCons (dFrz (dCB fTupOf (dCons (dVar 2) dNil))) dNil))))) (dCons (dC .none) (dCons (dC (.str "3 2 none")) (dCons (dFrz (dTup (dCons (dC (.int 11)) (dCons (dVar 1) (dCons (dVar 2) dNil))))) dNil)))))))) (dName 5))
  (dSeq (dAsg (dOp fAdd (dMove 5) (dLst (dCons (dFrz (dTup (dCons (dVar 0) (dCons (dC (.int 7)) (dCons (dVar 2) dNil))))) (dCons (dFrz (dTup (dCons (dVar 0) (dCons (dC (.int 0)) (dCons (dVar 2) dNil))))) (dCons (dFrz (dTup (dCons (dC (.int 0)) (dCons (dVar 1) (dCons (dFrz (dLst dNil)) dNil))))) (dCons (dFrz (dTup (dCons (dVar 0) (dCons (dVar 1) (dCons (dC .none) dNil))))) (dCons (dFrz (dTup (dCons (dC (.bool true)) (dCons (dVar 1) (dCons (dFrz (dLst dNil)) dNil))))) (dCons (dFrz (dTup (dCons (dVar 0) (dCons (dC (.bool true)) (dCons (dVar 2) dNil))))) dNil)))))))) (dName 5))
  (dSeq (dAsg (dOp fAdd (dMove 5) (dLst (dCons (dFrz (dTup (dCons (dVar 0) (dCons (dVar 1) (dCons (dFrz (dOp fAdd (dVar 2) (dLst (dCons (dC .none) dNil)))) dNil))))) (dCons (dFrz (dTup (dCons (dVar 0) (dCons (dVar 1) (dCons (dFrz (dOp fAdd (dVar 2) (dLst (dCons (dFrz (dTup (dCons (dOp gPow (dC (.int 10)) (dC (.int 30))) (dCons (dC (.int 0)) (dCons (dC (.int 0)) dNil))))) dNil)))) dNil))))) (dCons (dFrz (dTup (dCons (dVar 0) (dCons (dVar 1) (dCons (dFrz (dLst (dCons (dFrz (dTup (dCons (dC (.int 1)) (dCons (dC (.int 0)) (dCons (dVar 0) dNil))))) dNil))) dNil))))) (dCons (dC (.int 7)) (dCons (dFrz (dTup dNil)) dNil))))))) (dName 5))
  (dSeq (dIfS (dTest (dOp cGt (dCB fLen (dCons (dVar 3) dNil)) (dCB fLen (dCons (dVar 2) dNil)))) (dDrop (dMutL 5 mAppend (dCons (dFrz (dTup (dCons (dVar 0) (dCons (dVar 1) (dCons (dVar 3) dNil))))) dNil))) dNext)
  (dRet (dIxO 5 (dOp gMod (dVar 4) (dBor (dCB fLen (dCons (dVar 5) dNil))))))))))
/- _law_unwritten: 0 thing, 1 caught, 2 e -/
def bd__law_unwritten (K : PySem.W.Frag) (C_PlyError : Addr) (C_NoNet : Addr) (C_Clash : Addr) (C_NoLayers : Addr) (C_NoPlaces : Addr) (C_NoText : Addr) (C_NoTies : Addr) (w_net_text : WF) : DT :=
  (dSeq (dAsg (dC .none) (dName 1))
  (dSeq (dTryD K (.ref C_PlyError) 2 1 1 w_net_text (dConsR (dVar 0) dNilR))
  (dSeq (dIfS (dOr (dNot (dTest (dIsX K 1 (.ref C_NoNet)))) (dNot (dTest (dIsX K 1 (.type "ValueError"))))) (dRet (dC (.bool false))) dNext)
  (dRet (dNotV (dIsXT K 1 ([C_Clash, C_NoLayers, C_NoPlaces, C_NoText, C_NoTies].map Value.ref)))))))
/- law: 0 script, 1 cell, 2 numbers, 3 k, 4 told, 5 ties, 6 places, 7 text, 8 n, 9 record, 10 layers, 11 some, 12 tie, 13 number -/
def bd_law (w__law_numbers : WF) (w__law_record : WF) (w__law_depth : WF) (w__law_numbered : WF) (w__law_text : WF) (w__law_read : WF) (w__law_due : WF) (w__law_bad : WF) (w__law_unwritten : WF) (w__law_no_net : WF) : DT :=
  (dSeq (dFor (dItems (dFrz (dOp fAdd (dSlL (dVar 0) dNoPart (dPart (dC (.int 10)))) (dLst (dCons (dCB fLen (dCons (dVar 0) dNil)) dNil))))) (dName 1) (dSeq (dAsg (dFrz (dCall 3 w__law_numbers [] (dConsR (dVar 1) (dConsR (dC (.int 48)) (dConsR (dOp gPow (dC (.int 10)) (dC (.int 30))) dNilR))))) (dName 2))
    (dSeq (dAsg (dCall 2 w__law_record [] (dConsR (dFrz (dSlL (dVar 2) (dPart (dC (.int 8))) dNoPart)) (dConsR (dC (.int 12)) dNilR))) (dGTup 2 (dGCons (dName 8) (dGCons (dName 9) dGNil))))
    (dSeq (dAsg (dCall 1 w__law_depth [] (dConsR (dOp fIx (dVar 2) (dC (.int 0))) dNilR)) (dName 3))
    (dSeq (dAsg (dFrz (dCall 3 w__law_numbered [] (dConsR (dVar 8) (dConsR (dVar 9) (dConsR (dVar 3) dNilR))))) (dName 4))
    (dSeq (dAsg (dFrz (dLc (dZip (dCons (dVar 9) (dCons (dVar 4) dNil))) (dGTup 2 (dGCons (dName 12) (dGCons (dName 13) dGNil))) (dTest (dOp cGt (dVar 13) (dC (.int 0)))) (dVar 12) [12, 13])) (dName 5))
    (dSeq (dFor (dItems (dFrz (dLst (dCons (dFrz (dTup (dCons (dVar 8) (dCons (dVar 3) (dCons (dVar 5) dNil))))) (dCons (dFrz (dTup (dCons (dVar 8) (dCons (dVar 3) (dCons (dVar 9) dNil))))) (dCons (dFrz (dTup (dCons (dVar 8) (dCons (dOp fAdd (dC (.int 1)) (dOp gMod (dOp fIx (dVar 2) (dC (.int 1))) (dC (.int 6)))) (dCons (dVar 5) dNil))))) dNil)))))) (dGTup 3 (dGCons (dName 6) (dGCons (dName 10) (dGCons (dName 11) dGNil)))) (dSeq (dAsg (dOp fAdd (dOp fAdd (dOp fAdd (dOp fAdd (dCB fStr (dCons (dVar 6) dNil)) (dC (.str " "))) (dCB fStr (dCons (dVar 10) dNil))) (dC (.str " "))) (dCall 1 w__law_text [] (dConsR (dVar 11) dNilR))) (dName 7))
      (dIfS (dTest (dOp (fEqB true) (dFrz (dCall 1 w__law_read [] (dConsR (dVar 7) dNilR))) (dCall 3 w__law_due [] (dConsR (dVar 6) (dConsR (dVar 10) (dConsR (dVar 11) dNilR)))))) (dRet (dC (.bool false))) dNext)))
    (dSeq (dAsg (dOp gMod (dOp fIx (dVar 2) (dC (.int 2))) (dC (.int 13))) (dName 6))
    (dSeq (dAsg (dOp fAdd (dOp fAdd (dOp fAdd (dOp fAdd (dCB fStr (dCons (dVar 6) dNil)) (dC (.str " "))) (dCB fStr (dCons (dVar 3) dNil))) (dC (.str " "))) (dCall 1 w__law_text [] (dConsR (dVar 5) dNilR))) (dName 7))
    (dSeq (dIfS (dTest (dOp (fEqB true) (dFrz (dCall 1 w__law_read [] (dConsR (dVar 7) dNilR))) (dCall 3 w__law_due [] (dConsR (dVar 6) (dConsR (dVar 3) (dConsR (dVar 5) dNilR)))))) (dRet (dC (.bool false))) dNext)
    (dSeq (dIfS (dTest (dOp (fIsN true) (dFrz (dCall 1 w__law_read [] (dConsR (dCall 4 w__law_bad [] (dConsR (dVar 8) (dConsR (dVar 3) (dConsR (dVar 5) (dConsR (dOp fIx (dVar 2) (dC (.int 3))) dNilR))))) dNilR))) (dC .none))) (dRet (dC (.bool false))) dNext)
    (dIfS (dNot (dTest (dCall 1 w__law_unwritten [] (dConsR (dCall 5 w__law_no_net [] (dConsR (dVar 8) (dConsR (dVar 3) (dConsR (dVar 5) (dConsR (dVar 9) (dConsR (dOp fIx (dVar 2) (dC (.int 4))) dNilR)))))) dNilR)))) (dRet (dC (.bool false))) dNext))))))))))))
  (dRet (dC (.bool true))))
abbrev s_is_whole : Stmt := topS 12
abbrev N_is_whole : List Str := ["thing"]
theorem sc_is_whole : FnScope N_is_whole ["thing"] (defScope s_is_whole) := ⟨rfl, rfl, rfl, by decide +kernel, rfl, by decide +kernel, by decide +kernel⟩
abbrev s_is_many : Stmt := topS 13
abbrev N_is_many : List Str := ["thing"]
theorem sc_is_many : FnScope N_is_many ["thing"] (defScope s_is_many) := ⟨rfl, rfl, rfl, by decide +kernel, rfl, by decide +kernel, by decide +kernel⟩
abbrev s_is_place : Stmt := topS 14
abbrev N_is_place : List Str := ["n", "thing"]
theorem sc_is_place : FnScope N_is_place ["n", "thing"] (defScope s_is_place) := ⟨rfl, rfl, rfl, by decide +kernel, rfl, by decide +kernel, by decide +kernel⟩
abbrev s_is_moment : Stmt := topS 15
abbrev N_is_moment : List Str := ["thing"]
theorem sc_is_moment : FnScope N_is_moment ["thing"] (defScope s_is_moment) := ⟨rfl, rfl, rfl, by decide +kernel, rfl, by decide +kernel, by decide +kernel⟩
abbrev s_is_meeting : Stmt := topS 16
abbrev N_is_meeting : List Str := ["n", "thing"]
theorem sc_is_meeting : FnScope N_is_meeting ["n", "thing"] (defScope s_is_meeting) := ⟨rfl, rfl, rfl, by decide +kernel, rfl, by decide +kernel, by decide +kernel⟩
abbrev s_is_tie : Stmt := topS 17
abbrev N_is_tie : List Str := ["n", "thing"]
theorem sc_is_tie : FnScope N_is_tie ["n", "thing"] (defScope s_is_tie) := ⟨rfl, rfl, rfl, by decide +kernel, rfl, by decide +kernel, by decide +kernel⟩
abbrev s_is_record : Stmt := topS 18
abbrev N_is_record : List Str := ["n", "thing", "at", "tie"]
theorem sc_is_record : FnScope N_is_record ["n", "thing"] (defScope s_is_record) := ⟨rfl, rfl, rfl, by decide +kernel, rfl, by decide +kernel, by decide +kernel⟩
abbrev s_joined : Stmt := topS 20
abbrev N_joined : List Str := ["marks", "a", "b", "low", "high", "mark"]
theorem sc_joined : FnScope N_joined ["marks", "a", "b"] (defScope s_joined) := ⟨rfl, rfl, rfl, by decide +kernel, rfl, by decide +kernel, by decide +kernel⟩
abbrev s_is_depth : Stmt := topS 23
abbrev N_is_depth : List Str := ["thing"]
theorem sc_is_depth : FnScope N_is_depth ["thing"] (defScope s_is_depth) := ⟨rfl, rfl, rfl, by decide +kernel, rfl, by decide +kernel, by decide +kernel⟩
abbrev s_look_at_layers : Stmt := topS 24
abbrev N_look_at_layers : List Str := ["k"]
theorem sc_look_at_layers : FnScope N_look_at_layers ["k"] (defScope s_look_at_layers) := ⟨rfl, rfl, rfl, by decide +kernel, rfl, by decide +kernel, by decide +kernel⟩
abbrev s_layer_for : Stmt := topS 25
abbrev N_layer_for : List Str := ["marks", "a", "b", "j", "row"]
theorem sc_layer_for : FnScope N_layer_for ["marks", "a", "b"] (defScope s_layer_for) := ⟨rfl, rfl, rfl, by decide +kernel, rfl, by decide +kernel, by decide +kernel⟩
abbrev s_layered : Stmt := topS 26
abbrev N_layered : List Str := ["n", "record", "k", "marks", "numbers", "moment", "a", "b", "j"]
theorem sc_layered : FnScope N_layered ["n", "record", "k"] (defScope s_layered) := ⟨rfl, rfl, rfl, by decide +kernel, rfl, by decide +kernel, by decide +kernel⟩
abbrev s_is_count : Stmt := topS 30
abbrev N_is_count : List Str := ["thing", "most"]
theorem sc_is_count : FnScope N_is_count ["thing", "most"] (defScope s_is_count) := ⟨rfl, rfl, rfl, by decide +kernel, rfl, by decide +kernel, by decide +kernel⟩
abbrev s_is_net : Stmt := topS 31
abbrev N_is_net : List Str := ["thing", "n", "k", "ties"]
theorem sc_is_net : FnScope N_is_net ["thing"] (defScope s_is_net) := ⟨rfl, rfl, rfl, by decide +kernel, rfl, by decide +kernel, by decide +kernel⟩
abbrev s_tie_text : Stmt := topS 36
abbrev N_tie_text : List Str := ["tie", "moment", "a", "b"]
theorem sc_tie_text : FnScope N_tie_text ["tie"] (defScope s_tie_text) := ⟨rfl, rfl, rfl, by decide +kernel, rfl, by decide +kernel, by decide +kernel⟩
abbrev s_record_text : Stmt := topS 37
abbrev N_record_text : List Str := ["record", "tie"]
theorem sc_record_text : FnScope N_record_text ["record"] (defScope s_record_text) := ⟨rfl, rfl, rfl, by decide +kernel, rfl, by decide +kernel, by decide +kernel⟩
abbrev s_net_text : Stmt := topS 38
abbrev N_net_text : List Str := ["net", "n", "k", "ties"]
theorem sc_net_text : FnScope N_net_text ["net"] (defScope s_net_text) := ⟨rfl, rfl, rfl, by decide +kernel, rfl, by decide +kernel, by decide +kernel⟩
abbrev s_number_in : Stmt := topS 39
abbrev N_number_in : List Str := ["text", "sign"]
theorem sc_number_in : FnScope N_number_in ["text"] (defScope s_number_in) := ⟨rfl, rfl, rfl, by decide +kernel, rfl, by decide +kernel, by decide +kernel⟩
abbrev s_tie_in : Stmt := topS 40
abbrev N_tie_in : List Str := ["text", "moment", "colon", "ends", "a", "dash", "b"]
theorem sc_tie_in : FnScope N_tie_in ["text"] (defScope s_tie_in) := ⟨rfl, rfl, rfl, by decide +kernel, rfl, by decide +kernel, by decide +kernel⟩
abbrev s_read_record : Stmt := topS 41
abbrev N_read_record : List Str := ["n", "text", "record", "part"]
theorem sc_read_record : FnScope N_read_record ["n", "text"] (defScope s_read_record) := ⟨rfl, rfl, rfl, by decide +kernel, rfl, by decide +kernel, by decide +kernel⟩
abbrev s_read_net : Stmt := topS 42
abbrev N_read_net : List Str := ["text", "n", "k", "net", "places", "blank", "rest", "layers", "gap", "ties"]
theorem sc_read_net : FnScope N_read_net ["text"] (defScope s_read_net) := ⟨rfl, rfl, rfl, by decide +kernel, rfl, by decide +kernel, by decide +kernel⟩
abbrev s__law_mixed : Stmt := topS 44
abbrev N__law_mixed : List Str := ["cell", "k", "number"]
theorem sc__law_mixed : FnScope N__law_mixed ["cell", "k"] (defScope s__law_mixed) := ⟨rfl, rfl, rfl, by decide +kernel, rfl, by decide +kernel, by decide +kernel⟩
abbrev s__law_numbers : Stmt := topS 45
abbrev N__law_numbers : List Str := ["cell", "many", "base", "found", "left", "k", "number", "turns"]
theorem sc__law_numbers : FnScope N__law_numbers ["cell", "many", "base"] (defScope s__law_numbers) := ⟨rfl, rfl, rfl, by decide +kernel, rfl, by decide +kernel, by decide +kernel⟩
abbrev s__law_ends : Stmt := topS 46
abbrev N__law_ends : List Str := ["n", "kind", "one", "other", "a"]
theorem sc__law_ends : FnScope N__law_ends ["n", "kind", "one", "other"] (defScope s__law_ends) := ⟨rfl, rfl, rfl, by decide +kernel, rfl, by decide +kernel, by decide +kernel⟩
abbrev s__law_record : Stmt := topS 47
abbrev N__law_record : List Str := ["numbers", "most", "n", "many", "wide", "moment", "record", "k", "a", "b"]
theorem sc__law_record : FnScope N__law_record ["numbers", "most"] (defScope s__law_record) := ⟨rfl, rfl, rfl, by decide +kernel, rfl, by decide +kernel, by decide +kernel⟩
abbrev s__law_depth : Stmt := topS 48
abbrev N__law_depth : List Str := ["number"]
theorem sc__law_depth : FnScope N__law_depth ["number"] (defScope s__law_depth) := ⟨rfl, rfl, rfl, by decide +kernel, rfl, by decide +kernel, by decide +kernel⟩
abbrev s__law_joined : Stmt := topS 49
abbrev N__law_joined : List Str := ["n", "ties", "a", "b", "marks", "moment", "one", "other", "old", "new", "mark"]
theorem sc__law_joined : FnScope N__law_joined ["n", "ties", "a", "b"] (defScope s__law_joined) := ⟨rfl, rfl, rfl, by decide +kernel, rfl, by decide +kernel, by decide +kernel⟩
abbrev s__law_numbered : Stmt := topS 50
abbrev N__law_numbered : List Str := ["n", "record", "k", "numbers", "at", "j", "ties", "later"]
theorem sc__law_numbered : FnScope N__law_numbered ["n", "record", "k"] (defScope s__law_numbered) := ⟨rfl, rfl, rfl, by decide +kernel, rfl, by decide +kernel, by decide +kernel⟩
abbrev s__law_text : Stmt := topS 51
abbrev N__law_text : List Str := ["record", "tie"]
theorem sc__law_text : FnScope N__law_text ["record"] (defScope s__law_text) := ⟨rfl, rfl, rfl, by decide +kernel, rfl, by decide +kernel, by decide +kernel⟩
abbrev s__law_read : Stmt := topS 52
abbrev N__law_read : List Str := ["text", "caught", "found", "e"]
theorem sc__law_read : FnScope N__law_read ["text"] (defScope s__law_read) := ⟨rfl, rfl, rfl, by decide +kernel, rfl, by decide +kernel, by decide +kernel⟩
abbrev s__law_due : Stmt := topS 53
abbrev N__law_due : List Str := ["n", "k", "ties", "tie"]
theorem sc__law_due : FnScope N__law_due ["n", "k", "ties"] (defScope s__law_due) := ⟨rfl, rfl, rfl, by decide +kernel, rfl, by decide +kernel, by decide +kernel⟩
abbrev s__law_bad : Stmt := topS 54
abbrev N__law_bad : List Str := ["n", "k", "ties", "number", "text", "some"]
theorem sc__law_bad : FnScope N__law_bad ["n", "k", "ties", "number"] (defScope s__law_bad) := ⟨rfl, rfl, rfl, by decide +kernel, rfl, by decide +kernel, by decide +kernel⟩
abbrev s__law_no_net : Stmt := topS 55
abbrev N__law_no_net : List Str := ["n", "k", "ties", "record", "number", "some"]
theorem sc__law_no_net : FnScope N__law_no_net ["n", "k", "ties", "record", "number"] (defScope s__law_no_net) := ⟨rfl, rfl, rfl, by decide +kernel, rfl, by decide +kernel, by decide +kernel⟩
abbrev s__law_unwritten : Stmt := topS 56
abbrev N__law_unwritten : List Str := ["thing", "caught", "e"]
theorem sc__law_unwritten : FnScope N__law_unwritten ["thing"] (defScope s__law_unwritten) := ⟨rfl, rfl, rfl, by decide +kernel, rfl, by decide +kernel, by decide +kernel⟩
abbrev s_law : Stmt := topS 57
abbrev N_law : List Str := ["script", "cell", "numbers", "k", "told", "ties", "places", "text", "n", "record", "layers", "some", "tie", "number"]
theorem sc_law : FnScope N_law ["script"] (defScope s_law) := ⟨rfl, rfl, rfl, by decide +kernel, rfl, by decide +kernel, by decide +kernel⟩
structure Blt (mg : Str → Option Value) : Prop where
  b_ValueError : mg "ValueError" = none
  b_all : mg "all" = none
  b_bool : mg "bool" = none
  b_enumerate : mg "enumerate" = none
  b_int : mg "int" = none
  b_isinstance : mg "isinstance" = none
  b_len : mg "len" = none
  b_list : mg "list" = none
  b_max : mg "max" = none
  b_min : mg "min" = none
  b_range : mg "range" = none
  b_reversed : mg "reversed" = none
  b_str : mg "str" = none
  b_tuple : mg "tuple" = none
  b_zip : mg "zip" = none
theorem b_ValueError : bootBuiltins "ValueError" = some (.type "ValueError") := by decide +kernel
theorem b_all : bootBuiltins "all" = some (.builtin "all") := by decide +kernel
theorem b_bool : bootBuiltins "bool" = some (.type "bool") := by decide +kernel
theorem b_enumerate : bootBuiltins "enumerate" = some (.type "enumerate") := by decide +kernel
theorem b_int : bootBuiltins "int" = some (.type "int") := by decide +kernel
theorem b_isinstance : bootBuiltins "isinstance" = some (.builtin "isinstance") := by decide +kernel
theorem b_len : bootBuiltins "len" = some (.builtin "len") := by decide +kernel
theorem b_list : bootBuiltins "list" = some (.type "list") := by decide +kernel
theorem b_max : bootBuiltins "max" = some (.builtin "max") := by decide +kernel
theorem b_min : bootBuiltins "min" = some (.builtin "min") := by decide +kernel
theorem b_range : bootBuiltins "range" = some (.type "range") := by decide +kernel
theorem b_reversed : bootBuiltins "reversed" = some (.type "reversed") := by decide +kernel
theorem b_str : bootBuiltins "str" = some (.type "str") := by decide +kernel
theorem b_tuple : bootBuiltins "tuple" = some (.type "tuple") := by decide +kernel
theorem b_zip : bootBuiltins "zip" = some (.type "zip") := by decide +kernel
structure Cst (mg : Str → Option Value) : Prop where
  c_FIGURES : ∃ t, mg "FIGURES" = some (.str "0123456789" t)
  c_LAST_MOMENT : ∃ t, mg "LAST_MOMENT" = some (.int 1000000000000000000000000000000 t)
  c_MOST_FIGURES : ∃ t, mg "MOST_FIGURES" = some (.int 60 t)
  c_MOST_LAYERS_layers : ∃ t, mg "MOST_LAYERS_layers" = some (.int 6 t)
  c_MOST_LAYERS_nets : ∃ t, mg "MOST_LAYERS_nets" = some (.int 6 t)
  c_MOST_PLACES_nets : ∃ t, mg "MOST_PLACES_nets" = some (.int 10 t)
  c_MOST_PLACES_records : ∃ t, mg "MOST_PLACES_records" = some (.int 10 t)
  c_MOST_TIES : ∃ t, mg "MOST_TIES" = some (.int 60 t)
  c_NOTHING : ∃ t, mg "NOTHING" = some (.str "none" t)
end K57
set_option Elab.async false
set_option linter.all false
set_option maxRecDepth 100000
set_option maxHeartbeats 4000000
namespace K57
open PySem PySem.Spec PyProof.Rows L2 DL
section
variable {P : Program} {w : World} {K : PySem.W.Frag} {mg : Str → Option Value} {base : Heap}
theorem ok_is_whole (B : Blt mg) (C : Cst mg) (F : FunD K mg "is_whole" s_is_whole ["thing"]) {w_is_whole : WF} (hx : ∀ os q x, w_is_whole os q x → w_is_whole os q fun _ _ => False)
    (hb : ∀ os q x, os.length = 1 → w_is_whole os q x → frs_ [] 0 os = true ∧ bd_is_whole { nx := fun ρ => fin [] os ρ (q (.fr .none)), rt := fun o ρ => fin [] os ρ (q o), xc := fun xd ρ => fin [] os ρ (x xd) } (os.map some ++ List.replicate 0 none)) :
    Cal P w K mg base "is_whole" 1 1 w_is_whole := by
  refine Cal.mk1 F sc_is_whole rfl fun f cdv A outer s H vs Q E hr h => ?_
  refine ⟨_, (pss_one (ps_ret (pe_and (pe_callB (isiK_ K) (by rfl) B.b_isinstance b_isinstance (pa_cons (pv 0) (pa_cons (pe_bltn (v := .ty "int") (by rfl) B.b_int b_int rfl) pa_nil))) (pe_one (pe_not (pe_callB (isiK_ K) (by rfl) B.b_isinstance b_isinstance (pa_cons (pv 0) (pa_cons (pe_bltn (v := .ty "bool") (by rfl) B.b_bool b_bool rfl) pa_nil)))))))), ?_⟩
  exact body_of (io := []) (t := bd_is_whole) (E := E0)
    (sims_ret (sim_andV (sim_isi isi_int sim_var) (sim_notV (sim_isi isi_bool sim_var))))
    (e0_x hx h) (by decide) hb
theorem ok_is_many (B : Blt mg) (C : Cst mg) (F : FunD K mg "is_many" s_is_many ["thing"]) {w_is_whole : WF} (c_is_whole : Cal P w K mg base "is_whole" 1 1 w_is_whole) {w_is_many : WF} (hx : ∀ os q x, w_is_many os q x → w_is_many os q fun _ _ => False)
    (hb : ∀ os q x, os.length = 1 → w_is_many os q x → frs_ [] 0 os = true ∧ bd_is_many w_is_whole { nx := fun ρ => fin [] os ρ (q (.fr .none)), rt := fun o ρ => fin [] os ρ (q o), xc := fun xd ρ => fin [] os ρ (x xd) } (os.map some ++ List.replicate 0 none)) :
    Cal P w K mg base "is_many" 2 1 w_is_many := by
  refine Cal.mk1 F sc_is_many rfl fun f cdv A outer s H vs Q E hr h => ?_
  refine ⟨_, (pss_one (ps_ret (pe_and (pe_calK K c_is_whole (hr.mono (by decide)) (by rfl) (pa_cons (pv 0) pa_nil)) (pe_one (pe_chain op_le op_le pe_int (pv 0) (pe_glob (v := .int 10) (by rfl) (C.c_MOST_PLACES_records).choose_spec ⟨_, rfl⟩)))))), ?_⟩
  exact body_of (io := []) (t := bd_is_many w_is_whole) (E := E0)
    (sims_ret (sim_andV (sim_call (fun _ _ => rfl) (sim_consR sim_var sim_nilR)) (sim_chain (r2_I0 fun _ _ => scal_bl) (r2_I0 fun _ _ => scal_bl) (sim_c scal_int) sim_var (sim_c scal_int))))
    (e0_x hx h) (by decide) hb
theorem ok_is_place (B : Blt mg) (C : Cst mg) (F : FunD K mg "is_place" s_is_place ["n", "thing"]) {w_is_whole : WF} (c_is_whole : Cal P w K mg base "is_whole" 1 1 w_is_whole) {w_is_place : WF} (hx : ∀ os q x, w_is_place os q x → w_is_place os q fun _ _ => False)
    (hb : ∀ os q x, os.length = 2 → w_is_place os q x → frs_ [] 0 os = true ∧ bd_is_place w_is_whole { nx := fun ρ => fin [] os ρ (q (.fr .none)), rt := fun o ρ => fin [] os ρ (q o), xc := fun xd ρ => fin [] os ρ (x xd) } (os.map some ++ List.replicate 0 none)) :
    Cal P w K mg base "is_place" 2 2 w_is_place := by
  refine Cal.mk1 F sc_is_place rfl fun f cdv A outer s H vs Q E hr h => ?_
  refine ⟨_, (pss_one (ps_ret (pe_and (pe_calK K c_is_whole (hr.mono (by decide)) (by rfl) (pa_cons (pv 1) pa_nil)) (pe_one (pe_chain op_le op_lt pe_int (pv 1) (pv 0)))))), ?_⟩
  exact body_of (io := []) (t := bd_is_place w_is_whole) (E := E0)
    (sims_ret (sim_andV (sim_call (fun _ _ => rfl) (sim_consR sim_var sim_nilR)) (sim_chain (r2_I0 fun _ _ => scal_bl) (r2_I0 fun _ _ => scal_bl) (sim_c scal_int) sim_var sim_var)))
    (e0_x hx h) (by decide) hb
theorem ok_is_moment (B : Blt mg) (C : Cst mg) (F : FunD K mg "is_moment" s_is_moment ["thing"]) {w_is_whole : WF} (c_is_whole : Cal P w K mg base "is_whole" 1 1 w_is_whole) {w_is_moment : WF} (hx : ∀ os q x, w_is_moment os q x → w_is_moment os q fun _ _ => False)
    (hb : ∀ os q x, os.length = 1 → w_is_moment os q x → frs_ [] 0 os = true ∧ bd_is_moment w_is_whole { nx := fun ρ => fin [] os ρ (q (.fr .none)), rt := fun o ρ => fin [] os ρ (q o), xc := fun xd ρ => fin [] os ρ (x xd) } (os.map some ++ List.replicate 0 none)) :
    Cal P w K mg base "is_moment" 2 1 w_is_moment := by
  refine Cal.mk1 F sc_is_moment rfl fun f cdv A outer s H vs Q E hr h => ?_
  refine ⟨_, (pss_one (ps_ret (pe_and (pe_calK K c_is_whole (hr.mono (by decide)) (by rfl) (pa_cons (pv 0) pa_nil)) (pe_one (pe_chain op_le op_le pe_int (pv 0) (pe_glob (v := .int 1000000000000000000000000000000) (by rfl) (C.c_LAST_MOMENT).choose_spec ⟨_, rfl⟩)))))), ?_⟩
  exact body_of (io := []) (t := bd_is_moment w_is_whole) (E := E0)
    (sims_ret (sim_andV (sim_call (fun _ _ => rfl) (sim_consR sim_var sim_nilR)) (sim_chain (r2_I0 fun _ _ => scal_bl) (r2_I0 fun _ _ => scal_bl) (sim_c scal_int) sim_var (sim_c scal_int))))
    (e0_x hx h) (by decide) hb
theorem ok_is_meeting (B : Blt mg) (C : Cst mg) (F : FunD K mg "is_meeting" s_is_meeting ["n", "thing"]) {w_is_moment : WF} (c_is_moment : Cal P w K mg base "is_moment" 2 1 w_is_moment) {w_is_place : WF} (c_is_place : Cal P w K mg base "is_place" 2 2 w_is_place) {w_is_meeting : WF} (hx : ∀ os q x, w_is_meeting os q x → w_is_meeting os q fun _ _ => False)
    (hb : ∀ os q x, os.length = 2 → w_is_meeting os q x → frs_ [] 0 os = true ∧ bd_is_meeting w_is_moment w_is_place { nx := fun ρ => fin [] os ρ (q (.fr .none)), rt := fun o ρ => fin [] os ρ (q o), xc := fun xd ρ => fin [] os ρ (x xd) } (os.map some ++ List.replicate 0 none)) :
    Cal P w K mg base "is_meeting" 3 2 w_is_meeting := by
  refine Cal.mk1 F sc_is_meeting rfl fun f cdv A outer s H vs Q E hr h => ?_
  refine ⟨_, (pss_cons (ps_if (PW.pt (pw_or (pt_not (pt_val (pe_callB (isiK_ K) (by rfl) B.b_isinstance b_isinstance (pa_cons (pv 1) (pa_cons (pe_bltn (v := .ty "tuple") (by rfl) B.b_tuple b_tuple rfl) pa_nil))))) (pw_or (pt_cmpR (neK K (hu65 hr)) (pe_callB (lenK K) (by rfl) B.b_len b_len (pa_cons (pv 1) pa_nil)) pe_int (nomark _)) (pw_or1 (pt_not (pt_val (pe_calK K c_is_moment (hr.mono (by decide)) (by rfl) (pa_cons (pe_ix (ixK K) (pv 1) pe_int (fun _ _ => rfl)) pa_nil)))))))) (pss_one (ps_ret pe_bl)) pss_nil)
  (pss_one (ps_ret (pe_and (pe_calK K c_is_place (hr.mono (by decide)) (by rfl) (pa_cons (pv 0) (pa_cons (pe_ix (ixK K) (pv 1) pe_int (fun _ _ => rfl)) pa_nil))) (pe_one (pe_calK K c_is_place (hr.mono (by decide)) (by rfl) (pa_cons (pv 0) (pa_cons (pe_ix (ixK K) (pv 1) pe_int (fun _ _ => rfl)) pa_nil)))))))), ?_⟩
  exact body_of (io := []) (t := bd_is_meeting w_is_moment w_is_place) (E := E0)
    (sims_seq (sims_if (sim_or (sim_not (sim_B (sim_isi isi_tuple sim_var))) (sim_or (sim_test (sim_op r2_ne (sim_cb cs_len (sim_cons sim_var sim_nil)) (sim_c scal_int))) (sim_not (sim_B (sim_call (fun _ _ => rfl) (sim_consR (sim_op r2_ix sim_var (sim_c scal_int)) sim_nilR)))))) (sims_ret (sim_c scal_bl)) sims_next)
  (sims_ret (sim_andV (sim_call (fun _ _ => rfl) (sim_consR sim_var (sim_consR (sim_op r2_ix sim_var (sim_c scal_int)) sim_nilR))) (sim_call (fun _ _ => rfl) (sim_consR sim_var (sim_consR (sim_op r2_ix sim_var (sim_c scal_int)) sim_nilR))))))
    (e0_x hx h) (by decide) hb
theorem ok_is_tie (B : Blt mg) (C : Cst mg) (F : FunD K mg "is_tie" s_is_tie ["n", "thing"]) {w_is_meeting : WF} (c_is_meeting : Cal P w K mg base "is_meeting" 3 2 w_is_meeting) {w_is_tie : WF} (hx : ∀ os q x, w_is_tie os q x → w_is_tie os q fun _ _ => False)
    (hb : ∀ os q x, os.length = 2 → w_is_tie os q x → frs_ [] 0 os = true ∧ bd_is_tie w_is_meeting { nx := fun ρ => fin [] os ρ (q (.fr .none)), rt := fun o ρ => fin [] os ρ (q o), xc := fun xd ρ => fin [] os ρ (x xd) } (os.map some ++ List.replicate 0 none)) :
    Cal P w K mg base "is_tie" 4 2 w_is_tie := by
  refine Cal.mk1 F sc_is_tie rfl fun f cdv A outer s H vs Q E hr h => ?_
  refine ⟨_, (pss_one (ps_ret (pe_and (pe_calK K c_is_meeting (hr.mono (by decide)) (by rfl) (pa_cons (pv 0) (pa_cons (pv 1) pa_nil))) (pe_one (pe_cmpR op_le (pe_ix (ixK K) (pv 1) pe_int (fun _ _ => rfl)) (pe_ix (ixK K) (pv 1) pe_int (fun _ _ => rfl)) (nomark _)))))), ?_⟩
  exact body_of (io := []) (t := bd_is_tie w_is_meeting) (E := E0)
    (sims_ret (sim_andV (sim_call (fun _ _ => rfl) (sim_consR sim_var (sim_consR sim_var sim_nilR))) (sim_op (r2_I0 fun _ _ => scal_bl) (sim_op r2_ix sim_var (sim_c scal_int)) (sim_op r2_ix sim_var (sim_c scal_int)))))
    (e0_x hx h) (by decide) hb
theorem ok_is_record (B : Blt mg) (C : Cst mg) (F : FunD K mg "is_record" s_is_record ["n", "thing"]) {w_is_tie : WF} (c_is_tie : Cal P w K mg base "is_tie" 4 2 w_is_tie) {w_is_record : WF} (hx : ∀ os q x, w_is_record os q x → w_is_record os q fun _ _ => False)
    (hb : ∀ os q x, os.length = 2 → w_is_record os q x → frs_ [] 0 os = true ∧ bd_is_record w_is_tie { nx := fun ρ => fin [] os ρ (q (.fr .none)), rt := fun o ρ => fin [] os ρ (q o), xc := fun xd ρ => fin [] os ρ (x xd) } (os.map some ++ List.replicate 2 none)) :
    Cal P w K mg base "is_record" 5 2 w_is_record := by
  refine Cal.mk1 F sc_is_record rfl fun f cdv A outer s H vs Q E hr h => ?_
  refine ⟨_, (pss_cons (ps_if (PW.pt (pw_or (pt_not (pt_val (pe_callB (isiK_ K) (by rfl) B.b_isinstance b_isinstance (pa_cons (pv 1) (pa_cons (pe_bltn (v := .ty "list") (by rfl) B.b_list b_list rfl) pa_nil))))) (pw_or1 (pt_cmpR op_gt (pe_callB (lenK K) (by rfl) B.b_len b_len (pa_cons (pv 1) pa_nil)) (pe_glob (v := .int 60) (by rfl) (C.c_MOST_TIES).choose_spec ⟨_, rfl⟩) (nomark _))))) (pss_one (ps_ret pe_bl)) pss_nil)
  (pss_cons (ps_if (pt_not (pt_val (pe_callB (allK K rfl) (by rfl) B.b_all b_all (pa_cons (pe_lc (own := [("tie", 3)]) rfl sc_is_record.nd (pi_listK K (pv 1)) (blkOk_by (own := [("tie", 3)]) (N := N_is_record) (sc := defScope s_is_record) (by decide +kernel)) (fun _ _ _ _ _ => (pg_name (i := 3) sc_is_record.nd rfl (by first | exact Or.inl rfl | exact Or.inr rfl))) (fun _ _ _ _ _ => pts_nil) (fun _ _ _ _ _ => (pe_calK K c_is_tie (hr.mono (by decide)) (by rfl) (pa_cons (pv 0) (pa_cons (pv 3) pa_nil))))) pa_nil)))) (pss_one (ps_ret pe_bl)) pss_nil)
  (pss_one (ps_ret (pe_callB (allK K rfl) (by rfl) B.b_all b_all (pa_cons (pe_lc (own := [("at", 2)]) rfl sc_is_record.nd (pi_range2 (by rfl) B.b_range (pa_cons pe_int (pa_cons (pe_callB (lenK K) (by rfl) B.b_len b_len (pa_cons (pv 1) pa_nil)) pa_nil))) (blkOk_by (own := [("at", 2)]) (N := N_is_record) (sc := defScope s_is_record) (by decide +kernel)) (fun _ _ _ _ _ => (pg_name (i := 2) sc_is_record.nd rfl (by first | exact Or.inl rfl | exact Or.inr rfl))) (fun _ _ _ _ _ => pts_nil) (fun _ _ _ _ _ => (pe_cmpR op_lt (pe_ix (ixK K) (pe_ix (ixK K) (pv 1) (pe_op op_sub (pv 2) pe_int) (fun _ _ => rfl)) pe_int (fun _ _ => rfl)) (pe_ix (ixK K) (pe_ix (ixK K) (pv 1) (pv 2) (fun _ _ => rfl)) pe_int (fun _ _ => rfl)) (nomark _)))) pa_nil)))))), ?_⟩
  exact body_of (io := []) (t := bd_is_record w_is_tie) (E := E0)
    (sims_seq (sims_if (sim_or (sim_not (sim_B (sim_isi isi_list sim_var))) (sim_test (sim_op (r2_I0 fun _ _ => scal_bl) (sim_cb cs_len (sim_cons sim_var sim_nil)) (sim_c scal_int)))) (sims_ret (sim_c scal_bl)) sims_next)
  (sims_seq (sims_if (sim_not (sim_B (sim_cb cs_all (sim_cons (sim_lc (sim_items sim_var) (fun kc h => (simg_name (h 3 (by decide)))) sim_yes (sim_call (fun _ _ => rfl) (sim_consR sim_var (sim_consR sim_var sim_nilR)))) sim_nil)))) (sims_ret (sim_c scal_bl)) sims_next)
  (sims_ret (sim_cb cs_all (sim_cons (sim_lc (sim_rng2 (sim_cons (sim_c scal_int) (sim_cons (sim_cb cs_len (sim_cons sim_var sim_nil)) sim_nil))) (fun kc h => (simg_name (h 2 (by decide)))) sim_yes (sim_op (r2_I0 fun _ _ => scal_bl) (sim_op r2_ix (sim_op r2_ix sim_var (sim_op (r2_I0 fun _ _ => scal_int) sim_var (sim_c scal_int))) (sim_c scal_int)) (sim_op r2_ix (sim_op r2_ix sim_var sim_var) (sim_c scal_int)))) sim_nil)))))
    (e0_x hx h) (by decide) hb
theorem ok_joined (B : Blt mg) (C : Cst mg) (F : FunD K mg "joined" s_joined ["marks", "a", "b"]) {w_joined : WF} (hx : ∀ os q x, w_joined os q x → w_joined os q fun _ _ => False)
    (hb : ∀ os q x, os.length = 3 → w_joined os q x → frs_ [] 0 os = true ∧ bd_joined { nx := fun ρ => fin [] os ρ (q (.fr .none)), rt := fun o ρ => fin [] os ρ (q o), xc := fun xd ρ => fin [] os ρ (x xd) } (os.map some ++ List.replicate 3 none)) :
    Cal P w K mg base "joined" 1 3 w_joined := by
  refine Cal.mk1 F sc_joined rfl fun f cdv A outer s H vs Q E hr h => ?_
  refine ⟨_, (pss_cons (ps_set (i := 3) sc_joined.nd rfl (by first | exact Or.inl rfl | exact Or.inr rfl) (pe_callB (call_min2 rfl) (by rfl) B.b_min b_min (pa_cons (pe_ix (ixK K) (pv 0) (pv 1) (fun _ _ => rfl)) (pa_cons (pe_ix (ixK K) (pv 0) (pv 2) (fun _ _ => rfl)) pa_nil))))
  (pss_cons (ps_set (i := 4) sc_joined.nd rfl (by first | exact Or.inl rfl | exact Or.inr rfl) (pe_callB (call_max2 rfl) (by rfl) B.b_max b_max (pa_cons (pe_ix (ixK K) (pv 0) (pv 1) (fun _ _ => rfl)) (pa_cons (pe_ix (ixK K) (pv 0) (pv 2) (fun _ _ => rfl)) pa_nil))))
  (pss_one (ps_ret (pe_lc (own := [("mark", 5)]) rfl sc_joined.nd (pi_listK K (pv 0)) (blkOk_by (own := [("mark", 5)]) (N := N_joined) (sc := defScope s_joined) (by decide +kernel)) (fun _ _ _ _ _ => (pg_name (i := 5) sc_joined.nd rfl (by first | exact Or.inl rfl | exact Or.inr rfl))) (fun _ _ _ _ _ => pts_nil) (fun _ _ _ _ _ => (pe_ifExp (pt_cmpR (eqK K (hu65 hr)) (pv 5) (pv 4) (nomark _)) (pv 3) (pv 5)))))))), ?_⟩
  exact body_of (io := []) (t := bd_joined) (E := E0)
    (sims_seq (sims_asg (sim_cb cs_min2 (sim_cons (sim_op r2_ix sim_var sim_var) (sim_cons (sim_op r2_ix sim_var sim_var) sim_nil))) (simg_name (by decide)))
  (sims_seq (sims_asg (sim_cb cs_max2 (sim_cons (sim_op r2_ix sim_var sim_var) (sim_cons (sim_op r2_ix sim_var sim_var) sim_nil))) (simg_name (by decide)))
  (sims_ret (sim_lc (sim_items sim_var) (fun kc h => (simg_name (h 5 (by decide)))) sim_yes (sim_if (sim_test (sim_op r2_eq sim_var sim_var)) sim_var sim_var)))))
    (e0_x hx h) (by decide) hb
theorem ok_is_depth (B : Blt mg) (C : Cst mg) (F : FunD K mg "is_depth" s_is_depth ["thing"]) {w_is_whole : WF} (c_is_whole : Cal P w K mg base "is_whole" 1 1 w_is_whole) {w_is_depth : WF} (hx : ∀ os q x, w_is_depth os q x → w_is_depth os q fun _ _ => False)
    (hb : ∀ os q x, os.length = 1 → w_is_depth os q x → frs_ [] 0 os = true ∧ bd_is_depth w_is_whole { nx := fun ρ => fin [] os ρ (q (.fr .none)), rt := fun o ρ => fin [] os ρ (q o), xc := fun xd ρ => fin [] os ρ (x xd) } (os.map some ++ List.replicate 0 none)) :
    Cal P w K mg base "is_depth" 2 1 w_is_depth := by
  refine Cal.mk1 F sc_is_depth rfl fun f cdv A outer s H vs Q E hr h => ?_
  refine ⟨_, (pss_one (ps_ret (pe_and (pe_calK K c_is_whole (hr.mono (by decide)) (by rfl) (pa_cons (pv 0) pa_nil)) (pe_one (pe_chain op_le op_le pe_int (pv 0) (pe_glob (v := .int 6) (by rfl) (C.c_MOST_LAYERS_layers).choose_spec ⟨_, rfl⟩)))))), ?_⟩
  exact body_of (io := []) (t := bd_is_depth w_is_whole) (E := E0)
    (sims_ret (sim_andV (sim_call (fun _ _ => rfl) (sim_consR sim_var sim_nilR)) (sim_chain (r2_I0 fun _ _ => scal_bl) (r2_I0 fun _ _ => scal_bl) (sim_c scal_int) sim_var (sim_c scal_int))))
    (e0_x hx h) (by decide) hb
theorem ok_look_at_layers (B : Blt mg) (C : Cst mg) (F : FunD K mg "look_at_layers" s_look_at_layers ["k"]) {w_is_depth : WF} (c_is_depth : Cal P w K mg base "is_depth" 2 1 w_is_depth) {w_look_at_layers : WF} (hx : ∀ os q x, w_look_at_layers os q x → w_look_at_layers os q fun _ _ => False)
    (hb : ∀ os q x, os.length = 1 → w_look_at_layers os q x → frs_ [] 0 os = true ∧ bd_look_at_layers w_is_depth { nx := fun ρ => fin [] os ρ (q (.fr .none)), rt := fun o ρ => fin [] os ρ (q o), xc := fun xd ρ => fin [] os ρ (x xd) } (os.map some ++ List.replicate 0 none)) :
    Cal P w K mg base "look_at_layers" 3 1 w_look_at_layers := by
  refine Cal.mk1 F sc_look_at_layers rfl fun f cdv A outer s H vs Q E hr h => ?_
  refine ⟨_, (pss_one (ps_if (pt_not (pt_val (pe_calK K c_is_depth (hr.mono (by decide)) (by rfl) (pa_cons (pv 0) pa_nil)))) (pss_one ps_never) pss_nil)), ?_⟩
  exact body_of (io := []) (t := bd_look_at_layers w_is_depth) (E := E0)
    (sims_if (sim_not (sim_B (sim_call (fun _ _ => rfl) (sim_consR sim_var sim_nilR)))) sims_never sims_next)
    (e0_x hx h) (by decide) hb
theorem ok_layer_for (B : Blt mg) (C : Cst mg) (F : FunD K mg "layer_for" s_layer_for ["marks", "a", "b"]) {w_layer_for : WF} (hx : ∀ os q x, w_layer_for os q x → w_layer_for os q fun _ _ => False)
    (hb : ∀ os q x, os.length = 3 → w_layer_for os q x → frs_ [] 0 os = true ∧ bd_layer_for { nx := fun ρ => fin [] os ρ (q (.fr .none)), rt := fun o ρ => fin [] os ρ (q o), xc := fun xd ρ => fin [] os ρ (x xd) } (os.map some ++ List.replicate 2 none)) :
    Cal P w K mg base "layer_for" 1 3 w_layer_for := by
  refine Cal.mk1 F sc_layer_for rfl fun f cdv A outer s H vs Q E hr h => ?_
  refine ⟨_, (pss_cons (ps_for PassesOwn.never rfl (pi_enum (by rfl) B.b_enumerate (pa_cons (pv 0) pa_nil)) (pg_tupK K 2 rfl (pgs_cons (pg_name (i := 3) sc_layer_for.nd rfl (by first | exact Or.inl rfl | exact Or.inr rfl)) (pgs_cons (pg_name (i := 4) sc_layer_for.nd rfl (by first | exact Or.inl rfl | exact Or.inr rfl)) pgs_nil))) (pss_one (ps_if (pt_cmpR (neK K (hu65 hr)) (pe_ix (ixK K) (pv 4) (pv 1) (fun _ _ => rfl)) (pe_ix (ixK K) (pv 4) (pv 2) (fun _ _ => rfl)) (nomark _)) (pss_one (ps_ret (pe_op (addK K) (pv 3) pe_int))) pss_nil)))
  (pss_one (ps_ret pe_int))), ?_⟩
  exact body_of (io := []) (t := bd_layer_for) (E := E0)
    (sims_seq (sims_for (sim_enum sim_var) (simg_tup (simg_cons (simg_name (by decide)) (simg_cons (simg_name (by decide)) simg_nil))) (sims_if (sim_test (sim_op r2_ne (sim_op r2_ix sim_var sim_var) (sim_op r2_ix sim_var sim_var))) (sims_ret (sim_op r2_add sim_var (sim_c scal_int))) sims_next))
  (sims_ret (sim_c scal_int)))
    (e0_x hx h) (by decide) hb
theorem ok_layered (B : Blt mg) (C : Cst mg) (F : FunD K mg "layered" s_layered ["n", "record", "k"]) {w_look_at_layers : WF} (c_look_at_layers : Cal P w K mg base "look_at_layers" 3 1 w_look_at_layers) {w_layer_for : WF} (c_layer_for : Cal P w K mg base "layer_for" 1 3 w_layer_for) {w_joined : WF} (c_joined : Cal P w K mg base "joined" 1 3 w_joined) {w_layered : WF} (hx : ∀ os q x, w_layered os q x → w_layered os q fun _ _ => False)
    (hb : ∀ os q x, os.length = 3 → w_layered os q x → frs_ [] 0 os = true ∧ bd_layered w_look_at_layers w_layer_for w_joined { nx := fun ρ => fin [] os ρ (q (.fr .none)), rt := fun o ρ => fin [] os ρ (q o), xc := fun xd ρ => fin [] os ρ (x xd) } (os.map some ++ List.replicate 6 none)) :
    Cal P w K mg base "layered" 4 3 w_layered := by
  refine Cal.mk1 F sc_layered rfl fun f cdv A outer s H vs Q E hr h => ?_
  refine ⟨_, (pss_cons (ps_expr (pe_calK K c_look_at_layers (hr.mono (by decide)) (by rfl) (pa_cons (pv 2) pa_nil)))
  (pss_cons (by first | exact ps_setLc (i := 3) (own := [("j", 8)]) rfl sc_layered.nd rfl rfl (sw_true rfl rfl rfl (by decide +kernel)) (pi_range1 (by rfl) B.b_range (pa_cons (pv 2) pa_nil)) (blkOk_by (own := [("j", 8)]) (N := N_layered) (sc := defScope s_layered) (by decide +kernel)) (fun _ _ _ _ _ => (pg_name (i := 8) sc_layered.nd rfl (by first | exact Or.inl rfl | exact Or.inr rfl))) (fun _ _ _ _ _ => pts_nil) (fun _ _ _ _ _ => (pe_listRg rfl (by rfl) B.b_list (prg_1 (by rfl) B.b_range (pv 0)))) | exact ps_set (i := 3) sc_layered.nd rfl (by first | exact Or.inl rfl | exact Or.inr rfl) (pe_lc (own := [("j", 8)]) rfl sc_layered.nd (pi_range1 (by rfl) B.b_range (pa_cons (pv 2) pa_nil)) (blkOk_by (own := [("j", 8)]) (N := N_layered) (sc := defScope s_layered) (by decide +kernel)) (fun _ _ _ _ _ => (pg_name (i := 8) sc_layered.nd rfl (by first | exact Or.inl rfl | exact Or.inr rfl))) (fun _ _ _ _ _ => pts_nil) (fun _ _ _ _ _ => (pe_listRg rfl (by rfl) B.b_list (prg_1 (by rfl) B.b_range (pv 0))))))
  (pss_cons (ps_set (i := 4) sc_layered.nd rfl (by first | exact Or.inl rfl | exact Or.inr rfl) (pe_lst pa_nil))
  (pss_cons (ps_for PassesOwn.never rfl (pi_reversed (by rfl) B.b_reversed (pa_cons (pv 1) pa_nil)) (pg_tupK K 3 rfl (pgs_cons (pg_name (i := 5) sc_layered.nd rfl (by first | exact Or.inl rfl | exact Or.inr rfl)) (pgs_cons (pg_name (i := 6) sc_layered.nd rfl (by first | exact Or.inl rfl | exact Or.inr rfl)) (pgs_cons (pg_name (i := 7) sc_layered.nd rfl (by first | exact Or.inl rfl | exact Or.inr rfl)) pgs_nil)))) (pss_cons (ps_set (i := 8) sc_layered.nd rfl (by first | exact Or.inl rfl | exact Or.inr rfl) (pe_calK K c_layer_for (hr.mono (by decide)) (by rfl) (pa_cons (pv 3) (pa_cons (pv 6) (pa_cons (pv 7) pa_nil)))))
    (pss_cons (ps_if (pt_cmpR op_gt (pv 8) pe_int (nomark _)) (pss_one (ps_asg (pe_calK K c_joined (hr.mono (by decide)) (by rfl) (pa_cons (pe_ix (ixK K) (pv 3) (pe_op op_sub (pv 8) pe_int) (fun _ _ => rfl)) (pa_cons (pv 6) (pa_cons (pv 7) pa_nil)))) (pg_sub (pv 3) (pe_op op_sub (pv 8) pe_int) set_list))) pss_nil)
    (pss_one (ps_expr (pe_bm PySem.F.plainAttrs_list PySem.F.slot_list_append PySem.F.type_list_append mt_append (pv 4) (pa_cons (pv 8) pa_nil)))))))
  (pss_one (ps_ret (pe_lstRev rfl (by rfl) B.b_list (by rfl) B.b_reversed (pv 4)))))))), ?_⟩
  exact body_of (io := []) (t := bd_layered w_look_at_layers w_layer_for w_joined) (E := E0)
    (sims_seq (sims_drop (sim_call (fun _ _ => rfl) (sim_consR sim_var sim_nilR)))
  (sims_seq (sims_asg (sim_lc (sim_rng1 (sim_cons sim_var sim_nil)) (fun kc h => (simg_name (h 8 (by decide)))) sim_yes (sim_frz (sim_lstRg1 sim_var))) (simg_name (by decide)))
  (sims_seq (sims_asg (sim_lst sim_nil) (simg_name (by decide)))
  (sims_seq (sims_for (sim_rev sim_var) (simg_tup (simg_cons (simg_name (by decide)) (simg_cons (simg_name (by decide)) (simg_cons (simg_name (by decide)) simg_nil)))) (sims_seq (sims_asg (sim_bor (sim_call (fun _ _ => rfl) (sim_consR sim_var (sim_consR sim_var (sim_consR sim_var sim_nilR))))) (simg_name (by decide)))
    (sims_seq (sims_if (sim_test (sim_op (r2_I0 fun _ _ => scal_bl) sim_var (sim_c scal_int))) (sims_asg (sim_frz (sim_call (fun _ _ => rfl) (sim_consR (sim_ixO (sim_op (r2_I0 fun _ _ => scal_int) sim_var (sim_c scal_int))) (sim_consR sim_var (sim_consR sim_var sim_nilR))))) (simg_setI (sim_op (r2_I0 fun _ _ => scal_int) sim_var (sim_c scal_int)))) sims_next)
    (sims_drop (sim_mutL ms_append (sim_cons sim_var sim_nil))))))
  (sims_ret (sim_lstRev sim_move))))))
    (e0_x hx h) (by decide) hb
theorem ok_is_count (B : Blt mg) (C : Cst mg) (F : FunD K mg "is_count" s_is_count ["thing", "most"]) {w_is_count : WF} (hx : ∀ os q x, w_is_count os q x → w_is_count os q fun _ _ => False)
    (hb : ∀ os q x, os.length = 2 → w_is_count os q x → frs_ [] 0 os = true ∧ bd_is_count { nx := fun ρ => fin [] os ρ (q (.fr .none)), rt := fun o ρ => fin [] os ρ (q o), xc := fun xd ρ => fin [] os ρ (x xd) } (os.map some ++ List.replicate 0 none)) :
    Cal P w K mg base "is_count" 1 2 w_is_count := by
  refine Cal.mk1 F sc_is_count rfl fun f cdv A outer s H vs Q E hr h => ?_
  refine ⟨_, (pss_one (ps_ret (pe_and (pe_callB (isiK_ K) (by rfl) B.b_isinstance b_isinstance (pa_cons (pv 0) (pa_cons (pe_bltn (v := .ty "int") (by rfl) B.b_int b_int rfl) pa_nil))) (pe_and (pe_not (pe_callB (isiK_ K) (by rfl) B.b_isinstance b_isinstance (pa_cons (pv 0) (pa_cons (pe_bltn (v := .ty "bool") (by rfl) B.b_bool b_bool rfl) pa_nil)))) (pe_one (pe_chain op_le op_le pe_int (pv 0) (pv 1))))))), ?_⟩
  exact body_of (io := []) (t := bd_is_count) (E := E0)
    (sims_ret (sim_andV (sim_isi isi_int sim_var) (sim_andV (sim_notV (sim_isi isi_bool sim_var)) (sim_chain (r2_I0 fun _ _ => scal_bl) (r2_I0 fun _ _ => scal_bl) (sim_c scal_int) sim_var sim_var))))
    (e0_x hx h) (by decide) hb
theorem ok_is_net (B : Blt mg) (C : Cst mg) (F : FunD K mg "is_net" s_is_net ["thing"]) {w_is_count : WF} (c_is_count : Cal P w K mg base "is_count" 1 2 w_is_count) {w_is_record : WF} (c_is_record : Cal P w K mg base "is_record" 5 2 w_is_record) {w_layered : WF} (c_layered : Cal P w K mg base "layered" 4 3 w_layered) {w_is_net : WF} (hx : ∀ os q x, w_is_net os q x → w_is_net os q fun _ _ => False)
    (hb : ∀ os q x, os.length = 1 → w_is_net os q x → frs_ [] 0 os = true ∧ bd_is_net w_is_count w_is_record w_layered { nx := fun ρ => fin [] os ρ (q (.fr .none)), rt := fun o ρ => fin [] os ρ (q o), xc := fun xd ρ => fin [] os ρ (x xd) } (os.map some ++ List.replicate 3 none)) :
    Cal P w K mg base "is_net" 6 1 w_is_net := by
  refine Cal.mk1 F sc_is_net rfl fun f cdv A outer s H vs Q E hr h => ?_
  refine ⟨_, (pss_cons (ps_if (PW.pt (pw_or (pt_not (pt_val (pe_callB (isiK_ K) (by rfl) B.b_isinstance b_isinstance (pa_cons (pv 0) (pa_cons (pe_bltn (v := .ty "tuple") (by rfl) B.b_tuple b_tuple rfl) pa_nil))))) (pw_or1 (pt_cmpR (neK K (hu65 hr)) (pe_callB (lenK K) (by rfl) B.b_len b_len (pa_cons (pv 0) pa_nil)) pe_int (nomark _))))) (pss_one (ps_ret pe_bl)) pss_nil)
  (pss_cons (ps_asg (pv 0) (pg_tupK K 3 rfl (pgs_cons (pg_name (i := 1) sc_is_net.nd rfl (by first | exact Or.inl rfl | exact Or.inr rfl)) (pgs_cons (pg_name (i := 2) sc_is_net.nd rfl (by first | exact Or.inl rfl | exact Or.inr rfl)) (pgs_cons (pg_name (i := 3) sc_is_net.nd rfl (by first | exact Or.inl rfl | exact Or.inr rfl)) pgs_nil)))))
  (pss_cons (ps_if (PW.pt (pw_or (pt_not (pt_val (pe_calK K c_is_count (hr.mono (by decide)) (by rfl) (pa_cons (pv 1) (pa_cons (pe_glob (v := .int 10) (by rfl) (C.c_MOST_PLACES_nets).choose_spec ⟨_, rfl⟩) pa_nil))))) (pw_or (pt_not (pt_val (pe_calK K c_is_count (hr.mono (by decide)) (by rfl) (pa_cons (pv 2) (pa_cons (pe_glob (v := .int 6) (by rfl) (C.c_MOST_LAYERS_nets).choose_spec ⟨_, rfl⟩) pa_nil))))) (pw_or1 (pt_not (pt_val (pe_calK K c_is_record (hr.mono (by decide)) (by rfl) (pa_cons (pv 1) (pa_cons (pv 3) pa_nil))))))))) (pss_one (ps_ret pe_bl)) pss_nil)
  (pss_one (ps_ret (pe_cmpR (niK K (hu65 hr)) pe_int (pe_calK K c_layered (hr.mono (by decide)) (by rfl) (pa_cons (pv 1) (pa_cons (pv 3) (pa_cons (pv 2) pa_nil)))) rfl)))))), ?_⟩
  exact body_of (io := []) (t := bd_is_net w_is_count w_is_record w_layered) (E := E0)
    (sims_seq (sims_if (sim_or (sim_not (sim_B (sim_isi isi_tuple sim_var))) (sim_test (sim_op r2_ne (sim_cb cs_len (sim_cons sim_var sim_nil)) (sim_c scal_int)))) (sims_ret (sim_c scal_bl)) sims_next)
  (sims_seq (sims_asg sim_var (simg_tup (simg_cons (simg_name (by decide)) (simg_cons (simg_name (by decide)) (simg_cons (simg_name (by decide)) simg_nil)))))
  (sims_seq (sims_if (sim_or (sim_not (sim_B (sim_call (fun _ _ => rfl) (sim_consR sim_var (sim_consR (sim_c scal_int) sim_nilR))))) (sim_or (sim_not (sim_B (sim_call (fun _ _ => rfl) (sim_consR sim_var (sim_consR (sim_c scal_int) sim_nilR))))) (sim_not (sim_B (sim_call (fun _ _ => rfl) (sim_consR sim_var (sim_consR sim_var sim_nilR))))))) (sims_ret (sim_c scal_bl)) sims_next)
  (sims_ret (sim_op r2_ni (sim_c scal_int) (sim_frz (sim_call (fun _ _ => rfl) (sim_consR sim_var (sim_consR sim_var (sim_consR sim_var sim_nilR))))))))))
    (e0_x hx h) (by decide) hb
theorem ok_tie_text (B : Blt mg) (C : Cst mg) (F : FunD K mg "tie_text" s_tie_text ["tie"]) {w_tie_text : WF} (hx : ∀ os q x, w_tie_text os q x → w_tie_text os q fun _ _ => False)
    (hb : ∀ os q x, os.length = 1 → w_tie_text os q x → frs_ [] 0 os = true ∧ bd_tie_text { nx := fun ρ => fin [] os ρ (q (.fr .none)), rt := fun o ρ => fin [] os ρ (q o), xc := fun xd ρ => fin [] os ρ (x xd) } (os.map some ++ List.replicate 3 none)) :
    Cal P w K mg base "tie_text" 1 1 w_tie_text := by
  refine Cal.mk1 F sc_tie_text rfl fun f cdv A outer s H vs Q E hr h => ?_
  refine ⟨_, (pss_cons (ps_asg (pv 0) (pg_tupK K 3 rfl (pgs_cons (pg_name (i := 1) sc_tie_text.nd rfl (by first | exact Or.inl rfl | exact Or.inr rfl)) (pgs_cons (pg_name (i := 2) sc_tie_text.nd rfl (by first | exact Or.inl rfl | exact Or.inr rfl)) (pgs_cons (pg_name (i := 3) sc_tie_text.nd rfl (by first | exact Or.inl rfl | exact Or.inr rfl)) pgs_nil)))))
  (pss_one (ps_ret (pe_op (addK K) (pe_op (addK K) (pe_op (addK K) (pe_op (addK K) (pe_callTy call_str_int (by rfl) B.b_str b_str (pa_cons (pv 1) pa_nil)) pe_str) (pe_callTy call_str_int (by rfl) B.b_str b_str (pa_cons (pv 2) pa_nil))) pe_str) (pe_callTy call_str_int (by rfl) B.b_str b_str (pa_cons (pv 3) pa_nil)))))), ?_⟩
  exact body_of (io := []) (t := bd_tie_text) (E := E0)
    (sims_seq (sims_asg sim_var (simg_tup (simg_cons (simg_name (by decide)) (simg_cons (simg_name (by decide)) (simg_cons (simg_name (by decide)) simg_nil)))))
  (sims_ret (sim_op r2_add (sim_op r2_add (sim_op r2_add (sim_op r2_add (sim_cb cs_str (sim_cons sim_var sim_nil)) (sim_c scal_str)) (sim_cb cs_str (sim_cons sim_var sim_nil))) (sim_c scal_str)) (sim_cb cs_str (sim_cons sim_var sim_nil)))))
    (e0_x hx h) (by decide) hb
theorem ok_record_text (B : Blt mg) (C : Cst mg) (F : FunD K mg "record_text" s_record_text ["record"]) {w_tie_text : WF} (c_tie_text : Cal P w K mg base "tie_text" 1 1 w_tie_text) {w_record_text : WF} (hx : ∀ os q x, w_record_text os q x → w_record_text os q fun _ _ => False)
    (hb : ∀ os q x, os.length = 1 → w_record_text os q x → frs_ [] 0 os = true ∧ bd_record_text w_tie_text { nx := fun ρ => fin [] os ρ (q (.fr .none)), rt := fun o ρ => fin [] os ρ (q o), xc := fun xd ρ => fin [] os ρ (x xd) } (os.map some ++ List.replicate 1 none)) :
    Cal P w K mg base "record_text" 2 1 w_record_text := by
  refine Cal.mk1 F sc_record_text rfl fun f cdv A outer s H vs Q E hr h => ?_
  refine ⟨_, (pss_cons (ps_if (pt_cmpR (eqK K (hu65 hr)) (pv 0) (pe_lst pa_nil) (nomark _)) (pss_one (ps_ret (pe_glob (v := .str "none") (by rfl) (C.c_NOTHING).choose_spec ⟨_, rfl⟩))) pss_nil)
  (pss_one (ps_ret (pe_joinK K pe_str (pe_lc (own := [("tie", 1)]) rfl sc_record_text.nd (pi_listK K (pv 0)) (blkOk_by (own := [("tie", 1)]) (N := N_record_text) (sc := defScope s_record_text) (by decide +kernel)) (fun _ _ _ _ _ => (pg_name (i := 1) sc_record_text.nd rfl (by first | exact Or.inl rfl | exact Or.inr rfl))) (fun _ _ _ _ _ => pts_nil) (fun _ _ _ _ _ => (pe_calK K c_tie_text (hr.mono (by decide)) (by rfl) (pa_cons (pv 1) pa_nil)))))))), ?_⟩
  exact body_of (io := []) (t := bd_record_text w_tie_text) (E := E0)
    (sims_seq (sims_if (sim_test (sim_op r2_eq sim_var (sim_frz (sim_lst sim_nil)))) (sims_ret (sim_c scal_str)) sims_next)
  (sims_ret (sim_m1 m1_join (sim_c scal_str) (sim_lc (sim_items sim_var) (fun kc h => (simg_name (h 1 (by decide)))) sim_yes (sim_call (fun _ _ => rfl) (sim_consR sim_var sim_nilR))))))
    (e0_x hx h) (by decide) hb
theorem ok_net_text (B : Blt mg) (C : Cst mg) (F : FunD K mg "net_text" s_net_text ["net"]) {C_NoNet : Addr} (X_NoNet : ExcOk K mg "NoNet" C_NoNet) {w_is_net : WF} (c_is_net : Cal P w K mg base "is_net" 6 1 w_is_net) {w_record_text : WF} (c_record_text : Cal P w K mg base "record_text" 2 1 w_record_text) {w_net_text : WF}
    (hb : ∀ os q x, os.length = 1 → w_net_text os q x → frs_ [] 0 os = true ∧ bd_net_text C_NoNet w_is_net w_record_text { nx := fun ρ => fin [] os ρ (q (.fr .none)), rt := fun o ρ => fin [] os ρ (q o), xc := fun xd ρ => fin [] os ρ (x xd) } (os.map some ++ List.replicate 3 none)) :
    CalX P w K mg base "net_text" 7 1 w_net_text := by
  refine CalX.mk1 F sc_net_text rfl fun f cdv A outer s H vs Q E hr h => ?_
  refine ⟨_, (pss_cons (ps_if (pt_not (pt_val (pe_calK K c_is_net (hr.mono (by decide)) (by rfl) (pa_cons (pv 0) pa_nil)))) (pss_one (ps_raise0 rfl (takes_of rfl rfl rfl rfl) X_NoNet (by rfl))) pss_nil)
  (pss_cons (ps_asg (pv 0) (pg_tupK K 3 rfl (pgs_cons (pg_name (i := 1) sc_net_text.nd rfl (by first | exact Or.inl rfl | exact Or.inr rfl)) (pgs_cons (pg_name (i := 2) sc_net_text.nd rfl (by first | exact Or.inl rfl | exact Or.inr rfl)) (pgs_cons (pg_name (i := 3) sc_net_text.nd rfl (by first | exact Or.inl rfl | exact Or.inr rfl)) pgs_nil)))))
  (pss_one (ps_ret (pe_op (addK K) (pe_op (addK K) (pe_op (addK K) (pe_op (addK K) (pe_callTy call_str_int (by rfl) B.b_str b_str (pa_cons (pv 1) pa_nil)) pe_str) (pe_callTy call_str_int (by rfl) B.b_str b_str (pa_cons (pv 2) pa_nil))) pe_str) (pe_calK K c_record_text (hr.mono (by decide)) (by rfl) (pa_cons (pv 3) pa_nil))))))), ?_⟩
  exact body_of (io := []) (t := bd_net_text C_NoNet w_is_net w_record_text) (E := E)
    (sims_seq (sims_if (sim_not (sim_B (sim_call0 (sim_consR sim_var sim_nilR)))) sims_raise sims_next)
  (sims_seq (sims_asg sim_var (simg_tup (simg_cons (simg_name (by decide)) (simg_cons (simg_name (by decide)) (simg_cons (simg_name (by decide)) simg_nil)))))
  (sims_ret (sim_op r2_add (sim_op r2_add (sim_op r2_add (sim_op r2_add (sim_cb cs_str (sim_cons sim_var sim_nil)) (sim_c scal_str)) (sim_cb cs_str (sim_cons sim_var sim_nil))) (sim_c scal_str)) (sim_call0 (sim_consR sim_var sim_nilR))))))
    h (by decide) hb
theorem ok_number_in (B : Blt mg) (C : Cst mg) (F : FunD K mg "number_in" s_number_in ["text"]) {C_NoText : Addr} (X_NoText : ExcOk K mg "NoText" C_NoText) {w_number_in : WF}
    (hb : ∀ os q x, os.length = 1 → w_number_in os q x → frs_ [] 0 os = true ∧ bd_number_in C_NoText { nx := fun ρ => fin [] os ρ (q (.fr .none)), rt := fun o ρ => fin [] os ρ (q o), xc := fun xd ρ => fin [] os ρ (x xd) } (os.map some ++ List.replicate 1 none)) :
    CalX P w K mg base "number_in" 1 1 w_number_in := by
  refine CalX.mk1 F sc_number_in rfl fun f cdv A outer s H vs Q E hr h => ?_
  refine ⟨_, (pss_cons (ps_if (PW.pt (pw_or (pt_not (pt_chain op_le op_le pe_int (pe_callB (lenK K) (by rfl) B.b_len b_len (pa_cons (pv 0) pa_nil)) (pe_glob (v := .int 60) (by rfl) (C.c_MOST_FIGURES).choose_spec ⟨_, rfl⟩))) (pw_or1 (PW.pt (pw_and (pt_cmpR (eqK K (hu65 hr)) (pe_ix (ixK K) (pv 0) pe_int (fun _ _ => rfl)) pe_str (nomark _)) (pw_and1 (pt_cmpR (neK K (hu65 hr)) (pv 0) pe_str (nomark _)))))))) (pss_one (ps_raise0 rfl (takes_of rfl rfl rfl rfl) X_NoText (by rfl))) pss_nil)
  (pss_cons (ps_for (passes_of rfl) rfl (pi_str (pv 0)) (pg_name (i := 1) sc_number_in.nd rfl (by first | exact Or.inl rfl | exact Or.inr rfl)) (pss_one (ps_if (pt_cmpR (niK K (hu65 hr)) (pv 1) (pe_glob (v := .str "0123456789") (by rfl) (C.c_FIGURES).choose_spec ⟨_, rfl⟩) rfl) (pss_one (ps_raise0 rfl (takes_of rfl rfl rfl rfl) X_NoText (by rfl))) pss_nil)))
  (pss_one (ps_ret (pe_callTy call_intU (by rfl) B.b_int b_int (pa_cons (pv 0) pa_nil)))))), ?_⟩
  exact body_of (io := []) (t := bd_number_in C_NoText) (E := E)
    (sims_seq (sims_if (sim_or (sim_not (sim_test (sim_chain (r2_I0 fun _ _ => scal_bl) (r2_I0 fun _ _ => scal_bl) (sim_c scal_int) (sim_cb cs_len (sim_cons sim_var sim_nil)) (sim_c scal_int)))) (sim_and (sim_test (sim_op r2_eq (sim_op r2_ix sim_var (sim_c scal_int)) (sim_c scal_str))) (sim_test (sim_op r2_ne sim_var (sim_c scal_str))))) sims_raise sims_next)
  (sims_seq (sims_for (sim_signs sim_var) (simg_name (by decide)) (sims_if (sim_test (sim_op r2_ni sim_var (sim_c scal_str))) sims_raise sims_next))
  (sims_ret (sim_cb cs_int (sim_cons sim_var sim_nil)))))
    h (by decide) hb
theorem ok_tie_in (B : Blt mg) (C : Cst mg) (F : FunD K mg "tie_in" s_tie_in ["text"]) {w_number_in : WF} (c_number_in : CalX P w K mg base "number_in" 1 1 w_number_in) {w_tie_in : WF}
    (hb : ∀ os q x, os.length = 1 → w_tie_in os q x → frs_ [] 0 os = true ∧ bd_tie_in w_number_in { nx := fun ρ => fin [] os ρ (q (.fr .none)), rt := fun o ρ => fin [] os ρ (q o), xc := fun xd ρ => fin [] os ρ (x xd) } (os.map some ++ List.replicate 6 none)) :
    CalX P w K mg base "tie_in" 2 1 w_tie_in := by
  refine CalX.mk1 F sc_tie_in rfl fun f cdv A outer s H vs Q E hr h => ?_
  refine ⟨_, (pss_cons (ps_asg (pe_partition (pv 0) pe_str) (pg_tupK K 3 rfl (pgs_cons (pg_name (i := 1) sc_tie_in.nd rfl (by first | exact Or.inl rfl | exact Or.inr rfl)) (pgs_cons (pg_name (i := 2) sc_tie_in.nd rfl (by first | exact Or.inl rfl | exact Or.inr rfl)) (pgs_cons (pg_name (i := 3) sc_tie_in.nd rfl (by first | exact Or.inl rfl | exact Or.inr rfl)) pgs_nil)))))
  (pss_cons (ps_asg (pe_partition (pv 3) pe_str) (pg_tupK K 3 rfl (pgs_cons (pg_name (i := 4) sc_tie_in.nd rfl (by first | exact Or.inl rfl | exact Or.inr rfl)) (pgs_cons (pg_name (i := 5) sc_tie_in.nd rfl (by first | exact Or.inl rfl | exact Or.inr rfl)) (pgs_cons (pg_name (i := 6) sc_tie_in.nd rfl (by first | exact Or.inl rfl | exact Or.inr rfl)) pgs_nil)))))
  (pss_one (ps_ret (pe_tup (pa_cons (pe_calX K c_number_in (hr.mono (by decide)) (by rfl) (passes_call (takes_of rfl rfl rfl rfl) (fun _ _ _ _ h => h)) (pa_cons (pv 1) pa_nil)) (pa_cons (pe_calX K c_number_in (hr.mono (by decide)) (by rfl) (passes_call (takes_of rfl rfl rfl rfl) (fun _ _ _ _ h => h)) (pa_cons (pv 4) pa_nil)) (pa_cons (pe_calX K c_number_in (hr.mono (by decide)) (by rfl) (passes_call (takes_of rfl rfl rfl rfl) (fun _ _ _ _ h => h)) (pa_cons (pv 6) pa_nil)) pa_nil)))))))), ?_⟩
  exact body_of (io := []) (t := bd_tie_in w_number_in) (E := E)
    (sims_seq (sims_asg (sim_m1 m1_part sim_var (sim_c scal_str)) (simg_tup (simg_cons (simg_name (by decide)) (simg_cons (simg_name (by decide)) (simg_cons (simg_name (by decide)) simg_nil)))))
  (sims_seq (sims_asg (sim_m1 m1_part sim_var (sim_c scal_str)) (simg_tup (simg_cons (simg_name (by decide)) (simg_cons (simg_name (by decide)) (simg_cons (simg_name (by decide)) simg_nil)))))
  (sims_ret (sim_frz (sim_tup (sim_cons (sim_call (fun _ _ => rfl) (sim_consR sim_var sim_nilR)) (sim_cons (sim_call (fun _ _ => rfl) (sim_consR sim_var sim_nilR)) (sim_cons (sim_call (fun _ _ => rfl) (sim_consR sim_var sim_nilR)) sim_nil))))))))
    h (by decide) hb
theorem ok_read_record (B : Blt mg) (C : Cst mg) (F : FunD K mg "read_record" s_read_record ["n", "text"]) {C_NoText : Addr} (X_NoText : ExcOk K mg "NoText" C_NoText) {w_tie_in : WF} (c_tie_in : CalX P w K mg base "tie_in" 2 1 w_tie_in) {w_is_record : WF} (c_is_record : Cal P w K mg base "is_record" 5 2 w_is_record) {w_read_record : WF}
    (hb : ∀ os q x, os.length = 2 → w_read_record os q x → frs_ [] 0 os = true ∧ bd_read_record C_NoText w_tie_in w_is_record { nx := fun ρ => fin [] os ρ (q (.fr .none)), rt := fun o ρ => fin [] os ρ (q o), xc := fun xd ρ => fin [] os ρ (x xd) } (os.map some ++ List.replicate 2 none)) :
    CalX P w K mg base "read_record" 6 2 w_read_record := by
  refine CalX.mk1 F sc_read_record rfl fun f cdv A outer s H vs Q E hr h => ?_
  refine ⟨_, (pss_cons (ps_if (pt_cmpR (eqK K (hu65 hr)) (pv 1) (pe_glob (v := .str "none") (by rfl) (C.c_NOTHING).choose_spec ⟨_, rfl⟩) (nomark _)) (pss_one (ps_ret (pe_lst pa_nil))) pss_nil)
  (pss_cons (by first | exact ps_setLcR (i := 2) (own := [("part", 3)]) rfl rfl (takes_of rfl rfl rfl rfl) rfl sc_read_record.nd rfl rfl (sw_true rfl rfl rfl (by decide +kernel)) (pi_listK K (pe_split (pv 1) pe_str)) (blkOk_by (own := [("part", 3)]) (N := N_read_record) (sc := defScope s_read_record) (by decide +kernel)) (fun _ _ _ _ _ => (pg_name (i := 3) sc_read_record.nd rfl (by first | exact Or.inl rfl | exact Or.inr rfl))) (fun _ _ _ _ _ _ hp => (pe_calX K c_tie_in (hr.mono (by decide)) (by rfl) hp (pa_cons (pv 3) pa_nil))) | exact ps_set (i := 2) sc_read_record.nd rfl (by first | exact Or.inl rfl | exact Or.inr rfl) (pe_lcR (own := [("part", 3)]) rfl rfl (takes_of rfl rfl rfl rfl) rfl sc_read_record.nd (pi_listK K (pe_split (pv 1) pe_str)) (blkOk_by (own := [("part", 3)]) (N := N_read_record) (sc := defScope s_read_record) (by decide +kernel)) (fun _ _ _ _ _ => (pg_name (i := 3) sc_read_record.nd rfl (by first | exact Or.inl rfl | exact Or.inr rfl))) (fun _ _ _ _ _ _ hp => (pe_calX K c_tie_in (hr.mono (by decide)) (by rfl) hp (pa_cons (pv 3) pa_nil)))))
  (pss_cons (ps_if (pt_not (pt_val (pe_calK K c_is_record (hr.mono (by decide)) (by rfl) (pa_cons (pv 0) (pa_cons (pv 2) pa_nil))))) (pss_one (ps_raise0 rfl (takes_of rfl rfl rfl rfl) X_NoText (by rfl))) pss_nil)
  (pss_one (ps_ret (pv 2)))))), ?_⟩
  exact body_of (io := []) (t := bd_read_record C_NoText w_tie_in w_is_record) (E := E)
    (sims_seq (sims_if (sim_test (sim_op r2_eq sim_var (sim_c scal_str))) (sims_ret (sim_lst sim_nil)) sims_next)
  (sims_seq (sims_asg (sim_lcR (sim_items (sim_frz (sim_m1 m1_split sim_var (sim_c scal_str)))) (fun kc h => (simg_name (h 3 (by decide)))) (sim_call (fun _ _ => rfl) (sim_consR sim_var sim_nilR))) (simg_name (by decide)))
  (sims_seq (sims_if (sim_borT (sim_not (sim_B (sim_call0 (sim_consR sim_var (sim_consR sim_var sim_nilR)))))) sims_raise sims_next)
  (sims_ret sim_move))))
    h (by decide) hb
theorem ok_read_net (B : Blt mg) (C : Cst mg) (F : FunD K mg "read_net" s_read_net ["text"]) {C_NoText : Addr} (X_NoText : ExcOk K mg "NoText" C_NoText) {w_number_in : WF} (c_number_in : CalX P w K mg base "number_in" 1 1 w_number_in) {w_is_many : WF} (c_is_many : Cal P w K mg base "is_many" 2 1 w_is_many) {w_read_record : WF} (c_read_record : CalX P w K mg base "read_record" 6 2 w_read_record) {w_is_net : WF} (c_is_net : Cal P w K mg base "is_net" 6 1 w_is_net) {w_read_net : WF}
    (hb : ∀ os q x, os.length = 1 → w_read_net os q x → frs_ [] 0 os = true ∧ bd_read_net C_NoText w_number_in w_is_many w_read_record w_is_net { nx := fun ρ => fin [] os ρ (q (.fr .none)), rt := fun o ρ => fin [] os ρ (q o), xc := fun xd ρ => fin [] os ρ (x xd) } (os.map some ++ List.replicate 9 none)) :
    CalX P w K mg base "read_net" 7 1 w_read_net := by
  refine CalX.mk1 F sc_read_net rfl fun f cdv A outer s H vs Q E hr h => ?_
  refine ⟨_, (pss_cons (ps_asg (pe_partition (pv 0) pe_str) (pg_tupK K 3 rfl (pgs_cons (pg_name (i := 4) sc_read_net.nd rfl (by first | exact Or.inl rfl | exact Or.inr rfl)) (pgs_cons (pg_name (i := 5) sc_read_net.nd rfl (by first | exact Or.inl rfl | exact Or.inr rfl)) (pgs_cons (pg_name (i := 6) sc_read_net.nd rfl (by first | exact Or.inl rfl | exact Or.inr rfl)) pgs_nil)))))
  (pss_cons (ps_asg (pe_partition (pv 6) pe_str) (pg_tupK K 3 rfl (pgs_cons (pg_name (i := 7) sc_read_net.nd rfl (by first | exact Or.inl rfl | exact Or.inr rfl)) (pgs_cons (pg_name (i := 8) sc_read_net.nd rfl (by first | exact Or.inl rfl | exact Or.inr rfl)) (pgs_cons (pg_name (i := 9) sc_read_net.nd rfl (by first | exact Or.inl rfl | exact Or.inr rfl)) pgs_nil)))))
  (pss_cons (ps_set (i := 1) sc_read_net.nd rfl (by first | exact Or.inl rfl | exact Or.inr rfl) (pe_calX K c_number_in (hr.mono (by decide)) (by rfl) (passes_call (takes_of rfl rfl rfl rfl) (fun _ _ _ _ h => h)) (pa_cons (pv 4) pa_nil)))
  (pss_cons (ps_set (i := 2) sc_read_net.nd rfl (by first | exact Or.inl rfl | exact Or.inr rfl) (pe_calX K c_number_in (hr.mono (by decide)) (by rfl) (passes_call (takes_of rfl rfl rfl rfl) (fun _ _ _ _ h => h)) (pa_cons (pv 7) pa_nil)))
  (pss_cons (ps_if (pt_not (pt_val (pe_calK K c_is_many (hr.mono (by decide)) (by rfl) (pa_cons (pv 1) pa_nil)))) (pss_one (ps_raise0 rfl (takes_of rfl rfl rfl rfl) X_NoText (by rfl))) pss_nil)
  (pss_cons (ps_set (i := 3) sc_read_net.nd rfl (by first | exact Or.inl rfl | exact Or.inr rfl) (pe_tup (pa_cons (pv 1) (pa_cons (pv 2) (pa_cons (pe_calX K c_read_record (hr.mono (by decide)) (by rfl) (passes_call (takes_of rfl rfl rfl rfl) (fun _ _ _ _ h => h)) (pa_cons (pv 1) (pa_cons (pv 9) pa_nil))) pa_nil)))))
  (pss_cons (ps_if (pt_not (pt_val (pe_calK K c_is_net (hr.mono (by decide)) (by rfl) (pa_cons (pv 3) pa_nil)))) (pss_one (ps_raise0 rfl (takes_of rfl rfl rfl rfl) X_NoText (by rfl))) pss_nil)
  (pss_one (ps_ret (pv 3)))))))))), ?_⟩
  exact body_of (io := []) (t := bd_read_net C_NoText w_number_in w_is_many w_read_record w_is_net) (E := E)
    (sims_seq (sims_asg (sim_m1 m1_part sim_var (sim_c scal_str)) (simg_tup (simg_cons (simg_name (by decide)) (simg_cons (simg_name (by decide)) (simg_cons (simg_name (by decide)) simg_nil)))))
  (sims_seq (sims_asg (sim_m1 m1_part sim_var (sim_c scal_str)) (simg_tup (simg_cons (simg_name (by decide)) (simg_cons (simg_name (by decide)) (simg_cons (simg_name (by decide)) simg_nil)))))
  (sims_seq (sims_asg (sim_call (fun _ _ => rfl) (sim_consR sim_var sim_nilR)) (simg_name (by decide)))
  (sims_seq (sims_asg (sim_call (fun _ _ => rfl) (sim_consR sim_var sim_nilR)) (simg_name (by decide)))
  (sims_seq (sims_if (sim_not (sim_B (sim_call0 (sim_consR sim_var sim_nilR)))) sims_raise sims_next)
  (sims_seq (sims_asg (sim_tup (sim_cons sim_var (sim_cons sim_var (sim_cons (sim_call (fun _ _ => rfl) (sim_consR sim_var (sim_consR sim_var sim_nilR))) sim_nil)))) (simg_name (by decide)))
  (sims_seq (sims_if (sim_borT (sim_not (sim_B (sim_call0 (sim_consR sim_var sim_nilR))))) sims_raise sims_next)
  (sims_ret sim_move))))))))
    h (by decide) hb
theorem ok__law_mixed (B : Blt mg) (C : Cst mg) (F : FunD K mg "_law_mixed" s__law_mixed ["cell", "k"]) {w__law_mixed : WF} (hx : ∀ os q x, w__law_mixed os q x → w__law_mixed os q fun _ _ => False)
    (hb : ∀ os q x, os.length = 2 → w__law_mixed os q x → frs_ [] 0 os = true ∧ bd__law_mixed { nx := fun ρ => fin [] os ρ (q (.fr .none)), rt := fun o ρ => fin [] os ρ (q o), xc := fun xd ρ => fin [] os ρ (x xd) } (os.map some ++ List.replicate 1 none)) :
    Cal P w K mg base "_law_mixed" 1 2 w__law_mixed := by
  refine Cal.mk1 F sc__law_mixed rfl fun f cdv A outer s H vs Q E hr h => ?_
  refine ⟨_, (pss_cons (ps_set (i := 2) sc__law_mixed.nd rfl (by first | exact Or.inl rfl | exact Or.inr rfl) (pe_op op_mod (pe_op op_mulU (pe_op (addK K) (pe_op (addK K) (pe_op op_mod (pv 0) pe_int) (pe_op op_mulU pe_int (pv 1))) pe_int) pe_int) pe_int))
  (pss_cons (ps_set (i := 2) sc__law_mixed.nd rfl (by first | exact Or.inl rfl | exact Or.inr rfl) (pe_op op_mod (pe_op (addK K) (pe_op op_mod (pe_op op_mulU (pv 2) (pv 2)) pe_int) (pe_op op_mulU pe_int (pv 1))) pe_int))
  (pss_one (ps_ret (pe_op op_mod (pe_op op_mulU (pv 2) pe_int) pe_int))))), ?_⟩
  exact body_of (io := []) (t := bd__law_mixed) (E := E0)
    (sims_seq (sims_asg (sim_op (r2_I fun _ _ => scal_int) (sim_op r2_mul (sim_op r2_add (sim_op r2_add (sim_op (r2_I fun _ _ => scal_int) sim_var (sim_c scal_int)) (sim_op r2_mul (sim_c scal_int) sim_var)) (sim_c scal_int)) (sim_c scal_int)) (sim_c scal_int)) (simg_name (by decide)))
  (sims_seq (sims_asg (sim_op (r2_I fun _ _ => scal_int) (sim_op r2_add (sim_op (r2_I fun _ _ => scal_int) (sim_op r2_mul sim_var sim_var) (sim_c scal_int)) (sim_op r2_mul (sim_c scal_int) sim_var)) (sim_c scal_int)) (simg_name (by decide)))
  (sims_ret (sim_op (r2_I fun _ _ => scal_int) (sim_op r2_mul sim_var (sim_c scal_int)) (sim_c scal_int)))))
    (e0_x hx h) (by decide) hb
theorem ok__law_numbers (B : Blt mg) (C : Cst mg) (F : FunD K mg "_law_numbers" s__law_numbers ["cell", "many", "base"]) {w__law_mixed : WF} (c__law_mixed : Cal P w K mg base "_law_mixed" 1 2 w__law_mixed) {w__law_numbers : WF} (hx : ∀ os q x, w__law_numbers os q x → w__law_numbers os q fun _ _ => False)
    (hb : ∀ os q x, os.length = 3 → w__law_numbers os q x → frs_ [] 0 os = true ∧ bd__law_numbers w__law_mixed { nx := fun ρ => fin [] os ρ (q (.fr .none)), rt := fun o ρ => fin [] os ρ (q o), xc := fun xd ρ => fin [] os ρ (x xd) } (os.map some ++ List.replicate 5 none)) :
    Cal P w K mg base "_law_numbers" 2 3 w__law_numbers := by
  refine Cal.mk1 F sc__law_numbers rfl fun f cdv A outer s H vs Q E hr h => ?_
  refine ⟨_, (pss_cons (ps_set (i := 3) sc__law_numbers.nd rfl (by first | exact Or.inl rfl | exact Or.inr rfl) (pe_lst pa_nil))
  (pss_cons (ps_set (i := 4) sc__law_numbers.nd rfl (by first | exact Or.inl rfl | exact Or.inr rfl) (pe_op op_sub (pv 0) (pe_op op_pow pe_int pe_int)))
  (pss_cons (ps_for PassesOwn.never rfl (pi_range1 (by rfl) B.b_range (pa_cons (pv 1) pa_nil)) (pg_name (i := 5) sc__law_numbers.nd rfl (by first | exact Or.inl rfl | exact Or.inr rfl)) (pss_cons (ps_set (i := 6) sc__law_numbers.nd rfl (by first | exact Or.inl rfl | exact Or.inr rfl) (pv 4))
    (pss_cons (ps_if (pt_cmpR op_gt (pv 4) pe_int (nomark _)) (pss_one (ps_set (i := 4) sc__law_numbers.nd rfl (by first | exact Or.inl rfl | exact Or.inr rfl) (pe_op op_fdivW (pv 4) (pv 2)))) (pss_cons (ps_set (i := 6) sc__law_numbers.nd rfl (by first | exact Or.inl rfl | exact Or.inr rfl) pe_int)
      (pss_cons (ps_set (i := 7) sc__law_numbers.nd rfl (by first | exact Or.inl rfl | exact Or.inr rfl) pe_int)
      (pss_one (ps_while PassesOwn.never (pt_cmpR op_lt (pe_op op_mulU (pv 7) pe_int) (pe_op (addK K) (pe_bits (pv 2)) pe_int) (nomark _)) (pss_cons (ps_set (i := 6) sc__law_numbers.nd rfl (by first | exact Or.inl rfl | exact Or.inr rfl) (pe_op (addK K) (pe_op op_mulU (pv 6) pe_int) (pe_calK K c__law_mixed (hr.mono (by decide)) (by rfl) (pa_cons (pv 0) (pa_cons (pe_op (addK K) (pe_op op_mulU pe_int (pv 5)) (pv 7)) pa_nil)))))
        (pss_one (ps_set (i := 7) sc__law_numbers.nd rfl (by first | exact Or.inl rfl | exact Or.inr rfl) (pe_op (addK K) (pv 7) pe_int)))))))))
    (pss_one (ps_expr (pe_bm PySem.F.plainAttrs_list PySem.F.slot_list_append PySem.F.type_list_append mt_append (pv 3) (pa_cons (pe_op op_mod (pv 6) (pv 2)) pa_nil)))))))
  (pss_one (ps_ret (pv 3)))))), ?_⟩
  exact body_of (io := []) (t := bd__law_numbers w__law_mixed) (E := E0)
    (sims_seq (sims_asg (sim_lst sim_nil) (simg_name (by decide)))
  (sims_seq (sims_asg (sim_op (r2_I0 fun _ _ => scal_int) sim_var (sim_op (r2_I fun _ _ => scal_int) (sim_c scal_int) (sim_c scal_int))) (simg_name (by decide)))
  (sims_seq (sims_for (sim_rng1 (sim_cons sim_var sim_nil)) (simg_name (by decide)) (sims_seq (sims_asg sim_var (simg_name (by decide)))
    (sims_seq (sims_if (sim_test (sim_op (r2_I0 fun _ _ => scal_bl) sim_var (sim_c scal_int))) (sims_asg (sim_op (r2_I fun _ _ => scal_int) sim_var sim_var) (simg_name (by decide))) (sims_seq (sims_asg (sim_c scal_int) (simg_name (by decide)))
      (sims_seq (sims_asg (sim_c scal_int) (simg_name (by decide)))
      (sims_while (sim_test (sim_op (r2_I0 fun _ _ => scal_bl) (sim_op r2_mul sim_var (sim_c scal_int)) (sim_op r2_add (sim_bits sim_var) (sim_c scal_int)))) (sims_seq (sims_asg (sim_op r2_add (sim_op r2_mul sim_var (sim_c scal_int)) (sim_call (fun _ _ => rfl) (sim_consR sim_var (sim_consR (sim_op r2_add (sim_op r2_mul (sim_c scal_int) sim_var) sim_var) sim_nilR)))) (simg_name (by decide)))
        (sims_asg (sim_op r2_add sim_var (sim_c scal_int)) (simg_name (by decide))))))))
    (sims_drop (sim_mutL ms_append (sim_cons (sim_op (r2_I fun _ _ => scal_int) sim_var sim_var) sim_nil))))))
  (sims_ret sim_move))))
    (e0_x hx h) (by decide) hb
theorem ok__law_ends (B : Blt mg) (C : Cst mg) (F : FunD K mg "_law_ends" s__law_ends ["n", "kind", "one", "other"]) {w__law_ends : WF} (hx : ∀ os q x, w__law_ends os q x → w__law_ends os q fun _ _ => False)
    (hb : ∀ os q x, os.length = 4 → w__law_ends os q x → frs_ [] 0 os = true ∧ bd__law_ends { nx := fun ρ => fin [] os ρ (q (.fr .none)), rt := fun o ρ => fin [] os ρ (q o), xc := fun xd ρ => fin [] os ρ (x xd) } (os.map some ++ List.replicate 1 none)) :
    Cal P w K mg base "_law_ends" 1 4 w__law_ends := by
  refine Cal.mk1 F sc__law_ends rfl fun f cdv A outer s H vs Q E hr h => ?_
  refine ⟨_, (pss_cons (ps_set (i := 4) sc__law_ends.nd rfl (by first | exact Or.inl rfl | exact Or.inr rfl) (pe_op op_mod (pv 2) (pv 0)))
  (pss_cons (ps_if (pt_cmpR (eqK K (hu65 hr)) (pv 1) pe_int (nomark _)) (pss_one (ps_ret (pe_tup (pa_cons (pv 4) (pa_cons (pe_op op_mod (pv 3) (pv 0)) pa_nil))))) pss_nil)
  (pss_cons (ps_if (pt_cmpR (eqK K (hu65 hr)) (pv 1) pe_int (nomark _)) (pss_one (ps_ret (pe_tup (pa_cons (pe_op op_mod (pv 2) (pe_callB (call_min2 rfl) (by rfl) B.b_min b_min (pa_cons (pv 0) (pa_cons pe_int pa_nil)))) (pa_cons (pe_op op_mod (pv 3) (pe_callB (call_min2 rfl) (by rfl) B.b_min b_min (pa_cons (pv 0) (pa_cons pe_int pa_nil)))) pa_nil))))) pss_nil)
  (pss_cons (ps_if (pt_cmpR (eqK K (hu65 hr)) (pv 1) pe_int (nomark _)) (pss_one (ps_ret (pe_tup (pa_cons (pv 4) (pa_cons (pe_op op_mod (pe_op (addK K) (pe_op (addK K) (pv 4) pe_int) (pe_op op_fdivW (pe_op op_mod (pv 3) pe_int) pe_int)) (pv 0)) pa_nil))))) pss_nil)
  (pss_one (ps_ret (pe_tup (pa_cons (pv 4) (pa_cons (pe_op op_mod (pe_op (addK K) (pv 4) (pe_op op_mulU pe_int (pe_op op_mod (pv 3) (pv 0)))) (pv 0)) pa_nil))))))))), ?_⟩
  exact body_of (io := []) (t := bd__law_ends) (E := E0)
    (sims_seq (sims_asg (sim_op (r2_I fun _ _ => scal_int) sim_var sim_var) (simg_name (by decide)))
  (sims_seq (sims_if (sim_test (sim_op r2_eq sim_var (sim_c scal_int))) (sims_ret (sim_frz (sim_tup (sim_cons sim_var (sim_cons (sim_op (r2_I fun _ _ => scal_int) sim_var sim_var) sim_nil))))) sims_next)
  (sims_seq (sims_if (sim_test (sim_op r2_eq sim_var (sim_c scal_int))) (sims_ret (sim_frz (sim_tup (sim_cons (sim_op (r2_I fun _ _ => scal_int) sim_var (sim_cb cs_min2 (sim_cons sim_var (sim_cons (sim_c scal_int) sim_nil)))) (sim_cons (sim_op (r2_I fun _ _ => scal_int) sim_var (sim_cb cs_min2 (sim_cons sim_var (sim_cons (sim_c scal_int) sim_nil)))) sim_nil))))) sims_next)
  (sims_seq (sims_if (sim_test (sim_op r2_eq sim_var (sim_c scal_int))) (sims_ret (sim_frz (sim_tup (sim_cons sim_var (sim_cons (sim_op (r2_I fun _ _ => scal_int) (sim_op r2_add (sim_op r2_add sim_var (sim_c scal_int)) (sim_op (r2_I fun _ _ => scal_int) (sim_op (r2_I fun _ _ => scal_int) sim_var (sim_c scal_int)) (sim_c scal_int))) sim_var) sim_nil))))) sims_next)
  (sims_ret (sim_frz (sim_tup (sim_cons sim_var (sim_cons (sim_op (r2_I fun _ _ => scal_int) (sim_op r2_add sim_var (sim_op r2_mul (sim_c scal_int) (sim_op (r2_I fun _ _ => scal_int) sim_var sim_var))) sim_var) sim_nil)))))))))
    (e0_x hx h) (by decide) hb
theorem ok__law_record (B : Blt mg) (C : Cst mg) (F : FunD K mg "_law_record" s__law_record ["numbers", "most"]) {w__law_ends : WF} (c__law_ends : Cal P w K mg base "_law_ends" 1 4 w__law_ends) {w__law_record : WF} (hx : ∀ os q x, w__law_record os q x → w__law_record os q fun _ _ => False)
    (hb : ∀ os q x, os.length = 2 → w__law_record os q x → frs_ [] 0 os = true ∧ bd__law_record w__law_ends { nx := fun ρ => fin [] os ρ (q (.fr .none)), rt := fun o ρ => fin [] os ρ (q o), xc := fun xd ρ => fin [] os ρ (x xd) } (os.map some ++ List.replicate 8 none)) :
    Cal P w K mg base "_law_record" 2 2 w__law_record := by
  refine Cal.mk1 F sc__law_record rfl fun f cdv A outer s H vs Q E hr h => ?_
  refine ⟨_, (pss_cons (ps_set (i := 2) sc__law_record.nd rfl (by first | exact Or.inl rfl | exact Or.inr rfl) (pe_op (addK K) pe_int (pe_op op_mod (pe_ix (ixK K) (pv 0) pe_int (fun _ _ => rfl)) pe_int)))
  (pss_cons (ps_if (pt_cmpR (eqK K (hu65 hr)) (pe_op op_mod (pe_op op_fdivW (pe_ix (ixK K) (pv 0) pe_int (fun _ _ => rfl)) pe_int) pe_int) pe_int (nomark _)) (pss_one (ps_set (i := 2) sc__law_record.nd rfl (by first | exact Or.inl rfl | exact Or.inr rfl) (pe_op (addK K) pe_int (pe_op op_mod (pe_op op_fdivW (pe_ix (ixK K) (pv 0) pe_int (fun _ _ => rfl)) pe_int) pe_int)))) pss_nil)
  (pss_cons (ps_set (i := 3) sc__law_record.nd rfl (by first | exact Or.inl rfl | exact Or.inr rfl) (pe_op op_mod (pe_ix (ixK K) (pv 0) pe_int (fun _ _ => rfl)) pe_int))
  (pss_cons (ps_if (pt_cmpR (eqK K (hu65 hr)) (pe_op op_mod (pe_op op_fdivW (pe_ix (ixK K) (pv 0) pe_int (fun _ _ => rfl)) pe_int) pe_int) pe_int (nomark _)) (pss_one (ps_set (i := 3) sc__law_record.nd rfl (by first | exact Or.inl rfl | exact Or.inr rfl) (pe_op (addK K) pe_int (pe_op op_mod (pe_op op_fdivW (pe_ix (ixK K) (pv 0) pe_int (fun _ _ => rfl)) pe_int) pe_int)))) pss_nil)
  (pss_cons (ps_set (i := 4) sc__law_record.nd rfl (by first | exact Or.inl rfl | exact Or.inr rfl) (pe_ix (ixK K) (pe_lst (pa_cons pe_int (pa_cons pe_int (pa_cons (pe_op op_pow pe_int pe_int) pa_nil)))) (pe_op op_mod (pe_ix (ixK K) (pv 0) pe_int (fun _ _ => rfl)) pe_int) (fun _ _ => rfl)))
  (pss_cons (ps_set (i := 5) sc__law_record.nd rfl (by first | exact Or.inl rfl | exact Or.inr rfl) (pe_ix (ixK K) (pe_lst (pa_cons pe_int (pa_cons (pe_op op_mod (pe_op op_fdivW (pe_ix (ixK K) (pv 0) pe_int (fun _ _ => rfl)) pe_int) pe_int) (pa_cons (pe_op op_mod (pe_ix (ixK K) (pv 0) pe_int (fun _ _ => rfl)) (pe_op op_pow pe_int pe_int)) pa_nil)))) (pe_op op_mod (pe_op op_fdivW (pe_ix (ixK K) (pv 0) pe_int (fun _ _ => rfl)) pe_int) pe_int) (fun _ _ => rfl)))
  (pss_cons (ps_set (i := 6) sc__law_record.nd rfl (by first | exact Or.inl rfl | exact Or.inr rfl) (pe_lst pa_nil))
  (pss_cons (ps_for PassesOwn.never rfl (pi_range1 (by rfl) B.b_range (pa_cons (pe_callB (call_min3Nu rfl) (by rfl) B.b_min b_min (pa_cons (pv 3) (pa_cons (pv 1) (pa_cons (pe_op op_fdivW (pe_op op_sub (pe_callB (lenK K) (by rfl) B.b_len b_len (pa_cons (pv 0) pa_nil)) pe_int) pe_int) pa_nil)))) pa_nil)) (pg_name (i := 7) sc__law_record.nd rfl (by first | exact Or.inl rfl | exact Or.inr rfl)) (pss_cons (ps_asg (pe_calK K c__law_ends (hr.mono (by decide)) (by rfl) (pa_cons (pv 2) (pa_cons (pe_op op_mod (pe_ix (ixK K) (pv 0) pe_int (fun _ _ => rfl)) pe_int) (pa_cons (pe_ix (ixK K) (pv 0) (pe_op (addK K) pe_int (pe_op op_mulU pe_int (pv 7))) (fun _ _ => rfl)) (pa_cons (pe_ix (ixK K) (pv 0) (pe_op (addK K) pe_int (pe_op op_mulU pe_int (pv 7))) (fun _ _ => rfl)) pa_nil))))) (pg_tupK K 2 rfl (pgs_cons (pg_name (i := 8) sc__law_record.nd rfl (by first | exact Or.inl rfl | exact Or.inr rfl)) (pgs_cons (pg_name (i := 9) sc__law_record.nd rfl (by first | exact Or.inl rfl | exact Or.inr rfl)) pgs_nil))))
    (pss_cons (ps_expr (pe_bm PySem.F.plainAttrs_list PySem.F.slot_list_append PySem.F.type_list_append mt_append (pv 6) (pa_cons (pe_tup (pa_cons (pv 5) (pa_cons (pe_callB (call_min2 rfl) (by rfl) B.b_min b_min (pa_cons (pv 8) (pa_cons (pv 9) pa_nil))) (pa_cons (pe_callB (call_max2 rfl) (by rfl) B.b_max b_max (pa_cons (pv 8) (pa_cons (pv 9) pa_nil))) pa_nil)))) pa_nil)))
    (pss_one (ps_set (i := 5) sc__law_record.nd rfl (by first | exact Or.inl rfl | exact Or.inr rfl) (pe_op (addK K) (pe_op (addK K) (pv 5) pe_int) (pe_op op_mod (pe_ix (ixK K) (pv 0) (pe_op (addK K) pe_int (pe_op op_mulU pe_int (pv 7))) (fun _ _ => rfl)) (pv 4))))))))
  (pss_one (ps_ret (pe_tup (pa_cons (pv 2) (pa_cons (pv 6) pa_nil))))))))))))), ?_⟩
  exact body_of (io := []) (t := bd__law_record w__law_ends) (E := E0)
    (sims_seq (sims_asg (sim_op r2_add (sim_c scal_int) (sim_op (r2_I fun _ _ => scal_int) (sim_op r2_ix sim_var (sim_c scal_int)) (sim_c scal_int))) (simg_name (by decide)))
  (sims_seq (sims_if (sim_test (sim_op r2_eq (sim_op (r2_I fun _ _ => scal_int) (sim_op (r2_I fun _ _ => scal_int) (sim_op r2_ix sim_var (sim_c scal_int)) (sim_c scal_int)) (sim_c scal_int)) (sim_c scal_int))) (sims_asg (sim_op r2_add (sim_c scal_int) (sim_op (r2_I fun _ _ => scal_int) (sim_op (r2_I fun _ _ => scal_int) (sim_op r2_ix sim_var (sim_c scal_int)) (sim_c scal_int)) (sim_c scal_int))) (simg_name (by decide))) sims_next)
  (sims_seq (sims_asg (sim_op (r2_I fun _ _ => scal_int) (sim_op r2_ix sim_var (sim_c scal_int)) (sim_c scal_int)) (simg_name (by decide)))
  (sims_seq (sims_if (sim_test (sim_op r2_eq (sim_op (r2_I fun _ _ => scal_int) (sim_op (r2_I fun _ _ => scal_int) (sim_op r2_ix sim_var (sim_c scal_int)) (sim_c scal_int)) (sim_c scal_int)) (sim_c scal_int))) (sims_asg (sim_op r2_add (sim_c scal_int) (sim_op (r2_I fun _ _ => scal_int) (sim_op (r2_I fun _ _ => scal_int) (sim_op r2_ix sim_var (sim_c scal_int)) (sim_c scal_int)) (sim_c scal_int))) (simg_name (by decide))) sims_next)
  (sims_seq (sims_asg (sim_op r2_ix (sim_frz (sim_lst (sim_cons (sim_c scal_int) (sim_cons (sim_c scal_int) (sim_cons (sim_op (r2_I fun _ _ => scal_int) (sim_c scal_int) (sim_c scal_int)) sim_nil))))) (sim_op (r2_I fun _ _ => scal_int) (sim_op r2_ix sim_var (sim_c scal_int)) (sim_c scal_int))) (simg_name (by decide)))
  (sims_seq (sims_asg (sim_op r2_ix (sim_frz (sim_lst (sim_cons (sim_c scal_int) (sim_cons (sim_op (r2_I fun _ _ => scal_int) (sim_op (r2_I fun _ _ => scal_int) (sim_op r2_ix sim_var (sim_c scal_int)) (sim_c scal_int)) (sim_c scal_int)) (sim_cons (sim_op (r2_I fun _ _ => scal_int) (sim_op r2_ix sim_var (sim_c scal_int)) (sim_op (r2_I fun _ _ => scal_int) (sim_c scal_int) (sim_c scal_int))) sim_nil))))) (sim_op (r2_I fun _ _ => scal_int) (sim_op (r2_I fun _ _ => scal_int) (sim_op r2_ix sim_var (sim_c scal_int)) (sim_c scal_int)) (sim_c scal_int))) (simg_name (by decide)))
  (sims_seq (sims_asg (sim_lst sim_nil) (simg_name (by decide)))
  (sims_seq (sims_for (sim_rng1 (sim_cons (sim_cb cs_min3 (sim_cons sim_var (sim_cons sim_var (sim_cons (sim_op (r2_I fun _ _ => scal_int) (sim_op (r2_I0 fun _ _ => scal_int) (sim_cb cs_len (sim_cons sim_var sim_nil)) (sim_c scal_int)) (sim_c scal_int)) sim_nil)))) sim_nil)) (simg_name (by decide)) (sims_seq (sims_asg (sim_call (fun _ _ => rfl) (sim_consR sim_var (sim_consR (sim_op (r2_I fun _ _ => scal_int) (sim_op r2_ix sim_var (sim_c scal_int)) (sim_c scal_int)) (sim_consR (sim_op r2_ix sim_var (sim_op r2_add (sim_c scal_int) (sim_op r2_mul (sim_c scal_int) sim_var))) (sim_consR (sim_op r2_ix sim_var (sim_op r2_add (sim_c scal_int) (sim_op r2_mul (sim_c scal_int) sim_var))) sim_nilR))))) (simg_tup (simg_cons (simg_name (by decide)) (simg_cons (simg_name (by decide)) simg_nil))))
    (sims_seq (sims_drop (sim_mutL ms_append (sim_cons (sim_frz (sim_tup (sim_cons sim_var (sim_cons (sim_cb cs_min2 (sim_cons sim_var (sim_cons sim_var sim_nil))) (sim_cons (sim_cb cs_max2 (sim_cons sim_var (sim_cons sim_var sim_nil))) sim_nil))))) sim_nil)))
    (sims_asg (sim_op r2_add (sim_op r2_add sim_var (sim_c scal_int)) (sim_op (r2_I fun _ _ => scal_int) (sim_op r2_ix sim_var (sim_op r2_add (sim_c scal_int) (sim_op r2_mul (sim_c scal_int) sim_var))) sim_var)) (simg_name (by decide))))))
  (sims_ret (sim_frz (sim_tup (sim_cons sim_var (sim_cons sim_move sim_nil)))))))))))))
    (e0_x hx h) (by decide) hb
theorem ok__law_depth (B : Blt mg) (C : Cst mg) (F : FunD K mg "_law_depth" s__law_depth ["number"]) {w__law_depth : WF} (hx : ∀ os q x, w__law_depth os q x → w__law_depth os q fun _ _ => False)
    (hb : ∀ os q x, os.length = 1 → w__law_depth os q x → frs_ [] 0 os = true ∧ bd__law_depth { nx := fun ρ => fin [] os ρ (q (.fr .none)), rt := fun o ρ => fin [] os ρ (q o), xc := fun xd ρ => fin [] os ρ (x xd) } (os.map some ++ List.replicate 0 none)) :
    Cal P w K mg base "_law_depth" 1 1 w__law_depth := by
  refine Cal.mk1 F sc__law_depth rfl fun f cdv A outer s H vs Q E hr h => ?_
  refine ⟨_, (pss_one (ps_ret (pe_ix (ixK K) (pe_lst (pa_cons (pe_op (addK K) pe_int (pe_op op_mod (pv 0) pe_int)) (pa_cons (pe_op (addK K) pe_int (pe_op op_mod (pe_op op_fdivW (pv 0) pe_int) pe_int)) pa_nil))) (pe_callTy call_intU (by rfl) B.b_int b_int (pa_cons (pe_cmpR (eqK K (hu65 hr)) (pe_op op_mod (pv 0) pe_int) pe_int (nomark _)) pa_nil)) (fun _ _ => rfl)))), ?_⟩
  exact body_of (io := []) (t := bd__law_depth) (E := E0)
    (sims_ret (sim_op r2_ix (sim_frz (sim_lst (sim_cons (sim_op r2_add (sim_c scal_int) (sim_op (r2_I fun _ _ => scal_int) sim_var (sim_c scal_int))) (sim_cons (sim_op r2_add (sim_c scal_int) (sim_op (r2_I fun _ _ => scal_int) (sim_op (r2_I fun _ _ => scal_int) sim_var (sim_c scal_int)) (sim_c scal_int))) sim_nil)))) (sim_cb cs_int (sim_cons (sim_op r2_eq (sim_op (r2_I fun _ _ => scal_int) sim_var (sim_c scal_int)) (sim_c scal_int)) sim_nil))))
    (e0_x hx h) (by decide) hb
theorem ok__law_joined (B : Blt mg) (C : Cst mg) (F : FunD K mg "_law_joined" s__law_joined ["n", "ties", "a", "b"]) {w__law_joined : WF} (hx : ∀ os q x, w__law_joined os q x → w__law_joined os q fun _ _ => False)
    (hb : ∀ os q x, os.length = 4 → w__law_joined os q x → frs_ [] 0 os = true ∧ bd__law_joined { nx := fun ρ => fin [] os ρ (q (.fr .none)), rt := fun o ρ => fin [] os ρ (q o), xc := fun xd ρ => fin [] os ρ (x xd) } (os.map some ++ List.replicate 7 none)) :
    Cal P w K mg base "_law_joined" 1 4 w__law_joined := by
  refine Cal.mk1 F sc__law_joined rfl fun f cdv A outer s H vs Q E hr h => ?_
  refine ⟨_, (pss_cons (ps_set (i := 4) sc__law_joined.nd rfl (by first | exact Or.inl rfl | exact Or.inr rfl) (pe_listRg rfl (by rfl) B.b_list (prg_1 (by rfl) B.b_range (pv 0))))
  (pss_cons (ps_for PassesOwn.never rfl (pi_listK K (pv 1)) (pg_tupK K 3 rfl (pgs_cons (pg_name (i := 5) sc__law_joined.nd rfl (by first | exact Or.inl rfl | exact Or.inr rfl)) (pgs_cons (pg_name (i := 6) sc__law_joined.nd rfl (by first | exact Or.inl rfl | exact Or.inr rfl)) (pgs_cons (pg_name (i := 7) sc__law_joined.nd rfl (by first | exact Or.inl rfl | exact Or.inr rfl)) pgs_nil)))) (pss_cons (ps_set (i := 8) sc__law_joined.nd rfl (by first | exact Or.inl rfl | exact Or.inr rfl) (pe_ix (ixK K) (pv 4) (pv 6) (fun _ _ => rfl)))
    (pss_cons (ps_set (i := 9) sc__law_joined.nd rfl (by first | exact Or.inl rfl | exact Or.inr rfl) (pe_ix (ixK K) (pv 4) (pv 7) (fun _ _ => rfl)))
    (pss_one (by first | exact ps_setLc (i := 4) (own := [("mark", 10)]) rfl sc__law_joined.nd rfl rfl (sw_true rfl rfl rfl (by decide +kernel)) (pi_listK K (pv 4)) (blkOk_by (own := [("mark", 10)]) (N := N__law_joined) (sc := defScope s__law_joined) (by decide +kernel)) (fun _ _ _ _ _ => (pg_name (i := 10) sc__law_joined.nd rfl (by first | exact Or.inl rfl | exact Or.inr rfl))) (fun _ _ _ _ _ => pts_nil) (fun _ _ _ _ _ => (pe_ifExp (pt_cmpR (eqK K (hu65 hr)) (pv 10) (pv 8) (nomark _)) (pv 9) (pv 10))) | exact ps_set (i := 4) sc__law_joined.nd rfl (by first | exact Or.inl rfl | exact Or.inr rfl) (pe_lc (own := [("mark", 10)]) rfl sc__law_joined.nd (pi_listK K (pv 4)) (blkOk_by (own := [("mark", 10)]) (N := N__law_joined) (sc := defScope s__law_joined) (by decide +kernel)) (fun _ _ _ _ _ => (pg_name (i := 10) sc__law_joined.nd rfl (by first | exact Or.inl rfl | exact Or.inr rfl))) (fun _ _ _ _ _ => pts_nil) (fun _ _ _ _ _ => (pe_ifExp (pt_cmpR (eqK K (hu65 hr)) (pv 10) (pv 8) (nomark _)) (pv 9) (pv 10)))))))))
  (pss_one (ps_ret (pe_cmpR (eqK K (hu65 hr)) (pe_ix (ixK K) (pv 4) (pv 2) (fun _ _ => rfl)) (pe_ix (ixK K) (pv 4) (pv 3) (fun _ _ => rfl)) (nomark _)))))), ?_⟩
  exact body_of (io := []) (t := bd__law_joined) (E := E0)
    (sims_seq (sims_asg (sim_frz (sim_lstRg1 sim_var)) (simg_name (by decide)))
  (sims_seq (sims_for (sim_items sim_var) (simg_tup (simg_cons (simg_name (by decide)) (simg_cons (simg_name (by decide)) (simg_cons (simg_name (by decide)) simg_nil)))) (sims_seq (sims_asg (sim_op r2_ix sim_var sim_var) (simg_name (by decide)))
    (sims_seq (sims_asg (sim_op r2_ix sim_var sim_var) (simg_name (by decide)))
    (sims_asg (sim_frz (sim_lc (sim_items sim_var) (fun kc h => (simg_name (h 10 (by decide)))) sim_yes (sim_if (sim_test (sim_op r2_eq sim_var sim_var)) sim_var sim_var))) (simg_name (by decide))))))
  (sims_ret (sim_op r2_eq (sim_op r2_ix sim_var sim_var) (sim_op r2_ix sim_var sim_var)))))
    (e0_x hx h) (by decide) hb
theorem ok__law_numbered (B : Blt mg) (C : Cst mg) (F : FunD K mg "_law_numbered" s__law_numbered ["n", "record", "k"]) {w__law_joined : WF} (c__law_joined : Cal P w K mg base "_law_joined" 1 4 w__law_joined) {w__law_numbered : WF} (hx : ∀ os q x, w__law_numbered os q x → w__law_numbered os q fun _ _ => False)
    (hb : ∀ os q x, os.length = 3 → w__law_numbered os q x → frs_ [] 0 os = true ∧ bd__law_numbered w__law_joined { nx := fun ρ => fin [] os ρ (q (.fr .none)), rt := fun o ρ => fin [] os ρ (q o), xc := fun xd ρ => fin [] os ρ (x xd) } (os.map some ++ List.replicate 5 none)) :
    Cal P w K mg base "_law_numbered" 2 3 w__law_numbered := by
  refine Cal.mk1 F sc__law_numbered rfl fun f cdv A outer s H vs Q E hr h => ?_
  refine ⟨_, (pss_cons (ps_set (i := 3) sc__law_numbered.nd rfl (by first | exact Or.inl rfl | exact Or.inr rfl) (pe_op op_mulU (pe_lst (pa_cons pe_int pa_nil)) (pe_callB (lenK K) (by rfl) B.b_len b_len (pa_cons (pv 1) pa_nil))))
  (pss_cons (ps_for PassesOwn.never rfl (pi_range3 (by rfl) B.b_range (pa_cons (pe_op op_sub (pe_callB (lenK K) (by rfl) B.b_len b_len (pa_cons (pv 1) pa_nil)) pe_int) (pa_cons (pe_un un_neg pe_int) (pa_cons (pe_un un_neg pe_int) pa_nil)))) (pg_name (i := 4) sc__law_numbered.nd rfl (by first | exact Or.inl rfl | exact Or.inr rfl)) (pss_one (ps_for PassesOwn.never rfl (pi_range3 (by rfl) B.b_range (pa_cons (pv 2) (pa_cons pe_int (pa_cons (pe_un un_neg pe_int) pa_nil)))) (pg_name (i := 5) sc__law_numbered.nd rfl (by first | exact Or.inl rfl | exact Or.inr rfl)) (pss_cons (by first | exact ps_setLc (i := 6) (own := [("later", 7)]) rfl sc__law_numbered.nd rfl rfl (sw_true rfl rfl rfl (by decide +kernel)) (pi_range2 (by rfl) B.b_range (pa_cons (pe_op (addK K) (pv 4) pe_int) (pa_cons (pe_callB (lenK K) (by rfl) B.b_len b_len (pa_cons (pv 1) pa_nil)) pa_nil))) (blkOk_by (own := [("later", 7)]) (N := N__law_numbered) (sc := defScope s__law_numbered) (by decide +kernel)) (fun _ _ _ _ _ => (pg_name (i := 7) sc__law_numbered.nd rfl (by first | exact Or.inl rfl | exact Or.inr rfl))) (fun _ _ _ _ _ => (pts_one (pt_cmpR (eqK K (hu65 hr)) (pe_ix (ixK K) (pv 3) (pv 7) (fun _ _ => rfl)) (pv 5) (nomark _)))) (fun _ _ _ _ _ => (pe_ix (ixK K) (pv 1) (pv 7) (fun _ _ => rfl))) | exact ps_set (i := 6) sc__law_numbered.nd rfl (by first | exact Or.inl rfl | exact Or.inr rfl) (pe_lc (own := [("later", 7)]) rfl sc__law_numbered.nd (pi_range2 (by rfl) B.b_range (pa_cons (pe_op (addK K) (pv 4) pe_int) (pa_cons (pe_callB (lenK K) (by rfl) B.b_len b_len (pa_cons (pv 1) pa_nil)) pa_nil))) (blkOk_by (own := [("later", 7)]) (N := N__law_numbered) (sc := defScope s__law_numbered) (by decide +kernel)) (fun _ _ _ _ _ => (pg_name (i := 7) sc__law_numbered.nd rfl (by first | exact Or.inl rfl | exact Or.inr rfl))) (fun _ _ _ _ _ => (pts_one (pt_cmpR (eqK K (hu65 hr)) (pe_ix (ixK K) (pv 3) (pv 7) (fun _ _ => rfl)) (pv 5) (nomark _)))) (fun _ _ _ _ _ => (pe_ix (ixK K) (pv 1) (pv 7) (fun _ _ => rfl)))))
      (pss_one (ps_if (pt_not (pt_val (pe_calK K c__law_joined (hr.mono (by decide)) (by rfl) (pa_cons (pv 0) (pa_cons (pv 6) (pa_cons (pe_ix (ixK K) (pe_ix (ixK K) (pv 1) (pv 4) (fun _ _ => rfl)) pe_int (fun _ _ => rfl)) (pa_cons (pe_ix (ixK K) (pe_ix (ixK K) (pv 1) (pv 4) (fun _ _ => rfl)) pe_int (fun _ _ => rfl)) pa_nil))))))) (pss_one (ps_asg (pv 5) (pg_sub (pv 3) (pv 4) set_list))) pss_nil))))))
  (pss_one (ps_ret (pv 3))))), ?_⟩
  exact body_of (io := []) (t := bd__law_numbered w__law_joined) (E := E0)
    (sims_seq (sims_asg (sim_op r2_mul (sim_lst (sim_cons (sim_c scal_int) sim_nil)) (sim_cb cs_len (sim_cons sim_var sim_nil))) (simg_name (by decide)))
  (sims_seq (sims_for (sim_rng3 (sim_cons (sim_op (r2_I0 fun _ _ => scal_int) (sim_cb cs_len (sim_cons sim_var sim_nil)) (sim_c scal_int)) (sim_cons (sim_un r1_neg (sim_c scal_int)) (sim_cons (sim_un r1_neg (sim_c scal_int)) sim_nil)))) (simg_name (by decide)) (sims_for (sim_rng3 (sim_cons sim_var (sim_cons (sim_c scal_int) (sim_cons (sim_un r1_neg (sim_c scal_int)) sim_nil)))) (simg_name (by decide)) (sims_seq (sims_asg (sim_frz (sim_lc (sim_rng2 (sim_cons (sim_op r2_add sim_var (sim_c scal_int)) (sim_cons (sim_cb cs_len (sim_cons sim_var sim_nil)) sim_nil))) (fun kc h => (simg_name (h 7 (by decide)))) (sim_borT (sim_test (sim_op r2_eq (sim_op r2_ix sim_var sim_var) sim_var))) (sim_op r2_ix sim_var sim_var))) (simg_name (by decide)))
      (sims_if (sim_not (sim_B (sim_call (fun _ _ => rfl) (sim_consR sim_var (sim_consR sim_var (sim_consR (sim_op r2_ix (sim_op r2_ix sim_var sim_var) (sim_c scal_int)) (sim_consR (sim_op r2_ix (sim_op r2_ix sim_var sim_var) (sim_c scal_int)) sim_nilR))))))) (sims_asg sim_var (simg_setI sim_var)) sims_next))))
  (sims_ret sim_move)))
    (e0_x hx h) (by decide) hb
theorem ok__law_text (B : Blt mg) (C : Cst mg) (F : FunD K mg "_law_text" s__law_text ["record"]) {w__law_text : WF} (hx : ∀ os q x, w__law_text os q x → w__law_text os q fun _ _ => False)
    (hb : ∀ os q x, os.length = 1 → w__law_text os q x → frs_ [] 0 os = true ∧ bd__law_text { nx := fun ρ => fin [] os ρ (q (.fr .none)), rt := fun o ρ => fin [] os ρ (q o), xc := fun xd ρ => fin [] os ρ (x xd) } (os.map some ++ List.replicate 1 none)) :
    Cal P w K mg base "_law_text" 1 1 w__law_text := by
  refine Cal.mk1 F sc__law_text rfl fun f cdv A outer s H vs Q E hr h => ?_
  refine ⟨_, (pss_cons (ps_if (pt_cmpR (eqK K (hu65 hr)) (pv 0) (pe_lst pa_nil) (nomark _)) (pss_one (ps_ret pe_str)) pss_nil)
  (pss_one (ps_ret (pe_joinK K pe_str (pe_lc (own := [("tie", 1)]) rfl sc__law_text.nd (pi_listK K (pv 0)) (blkOk_by (own := [("tie", 1)]) (N := N__law_text) (sc := defScope s__law_text) (by decide +kernel)) (fun _ _ _ _ _ => (pg_name (i := 1) sc__law_text.nd rfl (by first | exact Or.inl rfl | exact Or.inr rfl))) (fun _ _ _ _ _ => pts_nil) (fun _ _ _ _ _ => (pe_op (addK K) (pe_op (addK K) (pe_op (addK K) (pe_op (addK K) (pe_callTy call_str_int (by rfl) B.b_str b_str (pa_cons (pe_ix (ixK K) (pv 1) pe_int (fun _ _ => rfl)) pa_nil)) pe_str) (pe_callTy call_str_int (by rfl) B.b_str b_str (pa_cons (pe_ix (ixK K) (pv 1) pe_int (fun _ _ => rfl)) pa_nil))) pe_str) (pe_callTy call_str_int (by rfl) B.b_str b_str (pa_cons (pe_ix (ixK K) (pv 1) pe_int (fun _ _ => rfl)) pa_nil))))))))), ?_⟩
  exact body_of (io := []) (t := bd__law_text) (E := E0)
    (sims_seq (sims_if (sim_test (sim_op r2_eq sim_var (sim_frz (sim_lst sim_nil)))) (sims_ret (sim_c scal_str)) sims_next)
  (sims_ret (sim_m1 m1_join (sim_c scal_str) (sim_lc (sim_items sim_var) (fun kc h => (simg_name (h 1 (by decide)))) sim_yes (sim_op r2_add (sim_op r2_add (sim_op r2_add (sim_op r2_add (sim_cb cs_str (sim_cons (sim_op r2_ix sim_var (sim_c scal_int)) sim_nil)) (sim_c scal_str)) (sim_cb cs_str (sim_cons (sim_op r2_ix sim_var (sim_c scal_int)) sim_nil))) (sim_c scal_str)) (sim_cb cs_str (sim_cons (sim_op r2_ix sim_var (sim_c scal_int)) sim_nil)))))))
    (e0_x hx h) (by decide) hb
theorem ok__law_read (B : Blt mg) (C : Cst mg) (F : FunD K mg "_law_read" s__law_read ["text"]) {C_PlyError : Addr} {C_NoText : Addr} {C_Clash : Addr} {C_NoLayers : Addr} {C_NoNet : Addr} {C_NoPlaces : Addr} {C_NoTies : Addr} (G_PlyError : mg "PlyError" = some (.ref C_PlyError)) (G_NoText : mg "NoText" = some (.ref C_NoText)) (G_Clash : mg "Clash" = some (.ref C_Clash)) (G_NoLayers : mg "NoLayers" = some (.ref C_NoLayers)) (G_NoNet : mg "NoNet" = some (.ref C_NoNet)) (G_NoPlaces : mg "NoPlaces" = some (.ref C_NoPlaces)) (G_NoTies : mg "NoTies" = some (.ref C_NoTies)) {w_read_net : WF} (c_read_net : CalX P w K mg base "read_net" 7 1 w_read_net) {w__law_read : WF} (hx : ∀ os q x, w__law_read os q x → w__law_read os q fun _ _ => False)
    (hb : ∀ os q x, os.length = 1 → w__law_read os q x → frs_ [] 0 os = true ∧ bd__law_read K C_PlyError C_NoText C_Clash C_NoLayers C_NoNet C_NoPlaces C_NoTies w_read_net { nx := fun ρ => fin [] os ρ (q (.fr .none)), rt := fun o ρ => fin [] os ρ (q o), xc := fun xd ρ => fin [] os ρ (x xd) } (os.map some ++ List.replicate 3 none)) :
    Cal P w K mg base "_law_read" 8 1 w__law_read := by
  refine Cal.mk1 F sc__law_read rfl fun f cdv A outer s H vs Q E hr h => ?_
  refine ⟨_, (pss_cons (ps_set (i := 1) sc__law_read.nd rfl (by first | exact Or.inl rfl | exact Or.inr rfl) pe_non)
  (pss_cons (ps_set (i := 2) sc__law_read.nd rfl (by first | exact Or.inl rfl | exact Or.inr rfl) pe_non)
  (pss_cons (ps_try_keep (i := 3) (j := 1) rfl rfl rfl sc__law_read.nd rfl rfl ⟨by rfl, by decide, .inl G_PlyError⟩ (fun _ _ _ => pss_one (ps_set (i := 1) sc__law_read.nd rfl (by first | exact Or.inl rfl | exact Or.inr rfl) (pv 3))) (fun W pn xe tk => pss_one (ps_set (i := 2) sc__law_read.nd rfl (by first | exact Or.inl rfl | exact Or.inr rfl) (pe_calS K c_read_net (hr.mono (by decide)) (by rfl) tk (pa_cons (pv 0) pa_nil)))))
  (pss_cons (ps_if (pt_cmpR op_isN (pv 1) pe_non (nomark _)) (pss_one (ps_ret (pv 2))) pss_nil)
  (pss_cons (ps_if (PW.pt (pw_or (pt_not (pt_val (pe_callB (call_isX rfl) (by rfl) B.b_isinstance b_isinstance (pa_cons (pv 1) (pa_cons (pe_glob (v := .ref C_NoText) (by rfl) G_NoText rfl) pa_nil))))) (pw_or1 (pt_val (pe_callB (call_isXT rfl) (by rfl) B.b_isinstance b_isinstance (pa_cons (pv 1) (pa_cons (pe_tup (pa_cons (pe_glob (v := .ref C_Clash) (by rfl) G_Clash rfl) (pa_cons (pe_glob (v := .ref C_NoLayers) (by rfl) G_NoLayers rfl) (pa_cons (pe_glob (v := .ref C_NoNet) (by rfl) G_NoNet rfl) (pa_cons (pe_glob (v := .ref C_NoPlaces) (by rfl) G_NoPlaces rfl) (pa_cons (pe_glob (v := .ref C_NoTies) (by rfl) G_NoTies rfl) pa_nil)))))) pa_nil))))))) (pss_one (ps_ret pe_str)) pss_nil)
  (pss_one (ps_ret pe_non))))))), ?_⟩
  exact body_of (io := []) (t := bd__law_read K C_PlyError C_NoText C_Clash C_NoLayers C_NoNet C_NoPlaces C_NoTies w_read_net) (E := E0)
    (sims_seq (sims_asg (sim_c scal_non) (simg_name (by decide)))
  (sims_seq (sims_asg (sim_c scal_non) (simg_name (by decide)))
  (sims_seq (sims_tryA (by decide) (by decide) (by decide) (by decide) (fun _ => (sim_consR sim_var sim_nilR)))
  (sims_seq (sims_if (sim_test (sim_isNV (neg := false))) (sims_ret sim_move) sims_next)
  (sims_seq (sims_if (sim_or (sim_not (sim_B (sim_isX (c := .ref C_NoText) (cv := .ref C_NoText) fun _ h => h))) (sim_B (sim_isXT (cs := [C_Clash, C_NoLayers, C_NoNet, C_NoPlaces, C_NoTies]) (by simp)))) (sims_ret (sim_c scal_str)) sims_next)
  (sims_ret (sim_c scal_non)))))))
    (e0_x hx h) (by decide) hb
theorem ok__law_due (B : Blt mg) (C : Cst mg) (F : FunD K mg "_law_due" s__law_due ["n", "k", "ties"]) {w__law_numbered : WF} (c__law_numbered : Cal P w K mg base "_law_numbered" 2 3 w__law_numbered) {w__law_due : WF} (hx : ∀ os q x, w__law_due os q x → w__law_due os q fun _ _ => False)
    (hb : ∀ os q x, os.length = 3 → w__law_due os q x → frs_ [] 0 os = true ∧ bd__law_due w__law_numbered { nx := fun ρ => fin [] os ρ (q (.fr .none)), rt := fun o ρ => fin [] os ρ (q o), xc := fun xd ρ => fin [] os ρ (x xd) } (os.map some ++ List.replicate 1 none)) :
    Cal P w K mg base "_law_due" 3 3 w__law_due := by
  refine Cal.mk1 F sc__law_due rfl fun f cdv A outer s H vs Q E hr h => ?_
  refine ⟨_, (pss_cons (ps_if (PW.pt (pw_or (pt_not (pt_chain op_le op_le pe_int (pv 0) pe_int)) (pw_or1 (pt_not (pt_chain op_le op_le pe_int (pv 1) pe_int))))) (pss_one (ps_ret pe_non)) pss_nil)
  (pss_cons (ps_for PassesOwn.never rfl (pi_listK K (pv 2)) (pg_name (i := 3) sc__law_due.nd rfl (by first | exact Or.inl rfl | exact Or.inr rfl)) (pss_one (ps_if (pt_cmpR op_ge (pe_ix (ixK K) (pv 3) pe_int (fun _ _ => rfl)) (pv 0) (nomark _)) (pss_one (ps_ret pe_non)) pss_nil)))
  (pss_cons (ps_if (pt_cmpR (inK K (hu65 hr)) pe_int (pe_calK K c__law_numbered (hr.mono (by decide)) (by rfl) (pa_cons (pv 0) (pa_cons (pv 2) (pa_cons (pv 1) pa_nil)))) rfl) (pss_one (ps_ret pe_non)) pss_nil)
  (pss_one (ps_ret (pe_tup (pa_cons (pv 0) (pa_cons (pv 1) (pa_cons (pv 2) pa_nil))))))))), ?_⟩
  exact body_of (io := []) (t := bd__law_due w__law_numbered) (E := E0)
    (sims_seq (sims_if (sim_or (sim_not (sim_test (sim_chain (r2_I0 fun _ _ => scal_bl) (r2_I0 fun _ _ => scal_bl) (sim_c scal_int) sim_var (sim_c scal_int)))) (sim_not (sim_test (sim_chain (r2_I0 fun _ _ => scal_bl) (r2_I0 fun _ _ => scal_bl) (sim_c scal_int) sim_var (sim_c scal_int))))) (sims_ret (sim_c scal_non)) sims_next)
  (sims_seq (sims_for (sim_items sim_var) (simg_name (by decide)) (sims_if (sim_test (sim_op (r2_I0 fun _ _ => scal_bl) (sim_op r2_ix sim_var (sim_c scal_int)) sim_var)) (sims_ret (sim_c scal_non)) sims_next))
  (sims_seq (sims_if (sim_test (sim_op r2_in (sim_c scal_int) (sim_frz (sim_call (fun _ _ => rfl) (sim_consR sim_var (sim_consR sim_var (sim_consR sim_var sim_nilR))))))) (sims_ret (sim_c scal_non)) sims_next)
  (sims_ret (sim_frz (sim_tup (sim_cons sim_var (sim_cons sim_var (sim_cons sim_var sim_nil)))))))))
    (e0_x hx h) (by decide) hb
theorem ok__law_bad (B : Blt mg) (C : Cst mg) (F : FunD K mg "_law_bad" s__law_bad ["n", "k", "ties", "number"]) {w__law_text : WF} (c__law_text : Cal P w K mg base "_law_text" 1 1 w__law_text) {w__law_bad : WF} (hx : ∀ os q x, w__law_bad os q x → w__law_bad os q fun _ _ => False)
    (hb : ∀ os q x, os.length = 4 → w__law_bad os q x → frs_ [] 0 os = true ∧ bd__law_bad w__law_text { nx := fun ρ => fin [] os ρ (q (.fr .none)), rt := fun o ρ => fin [] os ρ (q o), xc := fun xd ρ => fin [] os ρ (x xd) } (os.map some ++ List.replicate 2 none)) :
    Cal P w K mg base "_law_bad" 2 4 w__law_bad := by
  refine Cal.mk1 F sc__law_bad rfl fun f cdv A outer s H vs Q E hr h => ?_
  refine ⟨_, (pss_cons (ps_set (i := 4) sc__law_bad.nd rfl (by first | exact Or.inl rfl | exact Or.inr rfl) (pe_calK K c__law_text (hr.mono (by decide)) (by rfl) (pa_cons (pv 2) pa_nil)))
  (pss_cons (ps_set (i := 5) sc__law_bad.nd rfl (by first | exact Or.inl rfl | exact Or.inr rfl) (pe_lst (pa_cons (pe_op (addK K) (pe_op (addK K) (pe_callTy call_str_int (by rfl) B.b_str b_str (pa_cons (pv 0) pa_nil)) pe_str) (pe_callTy call_str_int (by rfl) B.b_str b_str (pa_cons (pv 1) pa_nil))) (pa_cons (pe_op (addK K) (pe_op (addK K) (pe_op (addK K) (pe_op (addK K) (pe_callTy call_str_int (by rfl) B.b_str b_str (pa_cons (pv 0) pa_nil)) pe_str) (pe_callTy call_str_int (by rfl) B.b_str b_str (pa_cons (pv 1) pa_nil))) pe_str) (pv 4)) (pa_cons (pv 4) (pa_cons (pe_op (addK K) (pe_op (addK K) (pe_callTy call_str_int (by rfl) B.b_str b_str (pa_cons (pv 1) pa_nil)) pe_str) (pv 4)) pa_nil))))))
  (pss_cons (ps_set (i := 5) sc__law_bad.nd rfl (by first | exact Or.inl rfl | exact Or.inr rfl) (pe_op (addK K) (pv 5) (pe_lst (pa_cons pe_str (pa_cons pe_str (pa_cons pe_str (pa_cons pe_str pa_nil)))))))
  (pss_cons (ps_set (i := 5) sc__law_bad.nd rfl (by first | exact Or.inl rfl | exact Or.inr rfl) (pe_op (addK K) (pv 5) (pe_lst (pa_cons (pe_op (addK K) (pe_op (addK K) (pe_op (addK K) pe_str (pe_callTy call_str_int (by rfl) B.b_str b_str (pa_cons (pv 0) pa_nil))) pe_str) (pv 4)) (pa_cons (pe_op (addK K) (pe_callTy call_str_int (by rfl) B.b_str b_str (pa_cons (pv 0) pa_nil)) pe_str) (pa_cons pe_str (pa_cons pe_str (pa_cons pe_str (pa_cons pe_str pa_nil)))))))))
  (pss_one (ps_ret (pe_ix (ixK K) (pe_op (addK K) (pv 5) (pe_lst (pa_cons (pe_op (addK K) (pe_op (addK K) (pe_op (addK K) (pe_op (addK K) (pe_op (addK K) (pe_callTy call_str_int (by rfl) B.b_str b_str (pa_cons (pv 0) pa_nil)) pe_str) (pe_callTy call_str_int (by rfl) B.b_str b_str (pa_cons (pv 1) pa_nil))) pe_str) (pv 4)) pe_str) (pa_cons pe_str pa_nil)))) (pe_op op_mod (pv 3) pe_int) (fun _ _ => rfl)))))))), ?_⟩
  exact body_of (io := []) (t := bd__law_bad w__law_text) (E := E0)
    (sims_seq (sims_asg (sim_call (fun _ _ => rfl) (sim_consR sim_var sim_nilR)) (simg_name (by decide)))
  (sims_seq (sims_asg (sim_frz (sim_lst (sim_cons (sim_op r2_add (sim_op r2_add (sim_cb cs_str (sim_cons sim_var sim_nil)) (sim_c scal_str)) (sim_cb cs_str (sim_cons sim_var sim_nil))) (sim_cons (sim_op r2_add (sim_op r2_add (sim_op r2_add (sim_op r2_add (sim_cb cs_str (sim_cons sim_var sim_nil)) (sim_c scal_str)) (sim_cb cs_str (sim_cons sim_var sim_nil))) (sim_c scal_str)) sim_var) (sim_cons sim_var (sim_cons (sim_op r2_add (sim_op r2_add (sim_cb cs_str (sim_cons sim_var sim_nil)) (sim_c scal_str)) sim_var) sim_nil)))))) (simg_name (by decide)))
  (sims_seq (sims_asg (sim_frz (sim_op r2_add sim_var (sim_lst (sim_cons (sim_c scal_str) (sim_cons (sim_c scal_str) (sim_cons (sim_c scal_str) (sim_cons (sim_c scal_str) sim_nil))))))) (simg_name (by decide)))
  (sims_seq (sims_asg (sim_frz (sim_op r2_add sim_var (sim_lst (sim_cons (sim_op r2_add (sim_op r2_add (sim_op r2_add (sim_c scal_str) (sim_cb cs_str (sim_cons sim_var sim_nil))) (sim_c scal_str)) sim_var) (sim_cons (sim_op r2_add (sim_cb cs_str (sim_cons sim_var sim_nil)) (sim_c scal_str)) (sim_cons (sim_c scal_str) (sim_cons (sim_c scal_str) (sim_cons (sim_c scal_str) (sim_cons (sim_c scal_str) sim_nil))))))))) (simg_name (by decide)))
  (sims_ret (sim_op r2_ix (sim_frz (sim_op r2_add sim_var (sim_lst (sim_cons (sim_op r2_add (sim_op r2_add (sim_op r2_add (sim_op r2_add (sim_op r2_add (sim_cb cs_str (sim_cons sim_var sim_nil)) (sim_c scal_str)) (sim_cb cs_str (sim_cons sim_var sim_nil))) (sim_c scal_str)) sim_var) (sim_c scal_str)) (sim_cons (sim_c scal_str) sim_nil))))) (sim_op (r2_I fun _ _ => scal_int) sim_var (sim_c scal_int))))))))
    (e0_x hx h) (by decide) hb
theorem ok__law_no_net (B : Blt mg) (C : Cst mg) (F : FunD K mg "_law_no_net" s__law_no_net ["n", "k", "ties", "record", "number"]) {w__law_no_net : WF} (hx : ∀ os q x, w__law_no_net os q x → w__law_no_net os q fun _ _ => False)
    (hb : ∀ os q x, os.length = 5 → w__law_no_net os q x → frs_ [] 0 os = true ∧ bd__law_no_net { nx := fun ρ => fin [] os ρ (q (.fr .none)), rt := fun o ρ => fin [] os ρ (q o), xc := fun xd ρ => fin [] os ρ (x xd) } (os.map some ++ List.replicate 1 none)) :
    Cal P w K mg base "_law_no_net" 1 5 w__law_no_net := by
  refine Cal.mk1 F sc__law_no_net rfl fun f cdv A outer s H vs Q E hr h => ?_
  refine ⟨_, (pss_cons (ps_set (i := 5) sc__law_no_net.nd rfl (by first | exact Or.inl rfl | exact Or.inr rfl) (pe_lst (pa_cons (pe_tup (pa_cons (pv 0) (pa_cons (pv 1) pa_nil))) (pa_cons (pe_tup (pa_cons (pv 0) (pa_cons (pv 1) (pa_cons (pv 2) (pa_cons pe_int pa_nil))))) (pa_cons (pe_lst (pa_cons (pv 0) (pa_cons (pv 1) (pa_cons (pe_callTy (listK K) (by rfl) B.b_list b_list (pa_cons (pv 2) pa_nil)) pa_nil)))) (pa_cons (pe_tup (pa_cons (pv 0) (pa_cons (pv 1) (pa_cons (pe_callTy (call_tupL rfl) (by rfl) B.b_tuple b_tuple (pa_cons (pv 2) pa_nil)) pa_nil)))) (pa_cons pe_non (pa_cons pe_str (pa_cons (pe_tup (pa_cons pe_int (pa_cons (pv 1) (pa_cons (pv 2) pa_nil)))) pa_nil)))))))))
  (pss_cons (ps_set (i := 5) sc__law_no_net.nd rfl (by first | exact Or.inl rfl | exact Or.inr rfl) (pe_op (addK K) (pv 5) (pe_lst (pa_cons (pe_tup (pa_cons (pv 0) (pa_cons pe_int (pa_cons (pv 2) pa_nil)))) (pa_cons (pe_tup (pa_cons (pv 0) (pa_cons pe_int (pa_cons (pv 2) pa_nil)))) (pa_cons (pe_tup (pa_cons pe_int (pa_cons (pv 1) (pa_cons (pe_lst pa_nil) pa_nil)))) (pa_cons (pe_tup (pa_cons (pv 0) (pa_cons (pv 1) (pa_cons pe_non pa_nil)))) (pa_cons (pe_tup (pa_cons pe_bl (pa_cons (pv 1) (pa_cons (pe_lst pa_nil) pa_nil)))) (pa_cons (pe_tup (pa_cons (pv 0) (pa_cons pe_bl (pa_cons (pv 2) pa_nil)))) pa_nil)))))))))
  (pss_cons (ps_set (i := 5) sc__law_no_net.nd rfl (by first | exact Or.inl rfl | exact Or.inr rfl) (pe_op (addK K) (pv 5) (pe_lst (pa_cons (pe_tup (pa_cons (pv 0) (pa_cons (pv 1) (pa_cons (pe_op (addK K) (pv 2) (pe_lst (pa_cons pe_non pa_nil))) pa_nil)))) (pa_cons (pe_tup (pa_cons (pv 0) (pa_cons (pv 1) (pa_cons (pe_op (addK K) (pv 2) (pe_lst (pa_cons (pe_tup (pa_cons (pe_op op_pow pe_int pe_int) (pa_cons pe_int (pa_cons pe_int pa_nil)))) pa_nil))) pa_nil)))) (pa_cons (pe_tup (pa_cons (pv 0) (pa_cons (pv 1) (pa_cons (pe_lst (pa_cons (pe_tup (pa_cons pe_int (pa_cons pe_int (pa_cons (pv 0) pa_nil)))) pa_nil)) pa_nil)))) (pa_cons pe_int (pa_cons (pe_tup pa_nil) pa_nil))))))))
  (pss_cons (ps_if (pt_cmpR op_gt (pe_callB (lenK K) (by rfl) B.b_len b_len (pa_cons (pv 3) pa_nil)) (pe_callB (lenK K) (by rfl) B.b_len b_len (pa_cons (pv 2) pa_nil)) (nomark _)) (pss_one (ps_expr (pe_bm PySem.F.plainAttrs_list PySem.F.slot_list_append PySem.F.type_list_append mt_append (pv 5) (pa_cons (pe_tup (pa_cons (pv 0) (pa_cons (pv 1) (pa_cons (pv 3) pa_nil)))) pa_nil)))) pss_nil)
  (pss_one (ps_ret (pe_ix (ixK K) (pv 5) (pe_op op_mod (pv 4) (pe_callB (lenK K) (by rfl) B.b_len b_len (pa_cons (pv 5) pa_nil))) (fun _ _ => rfl)))))))), ?_⟩
  exact body_of (io := []) (t := bd__law_no_net) (E := E0)
    (sims_seq (sims_asg (sim_lst (sim_cons (sim_frz (sim_tup (sim_cons sim_var (sim_cons sim_var sim_nil)))) (sim_cons (sim_frz (sim_tup (sim_cons sim_var (sim_cons sim_var (sim_cons sim_var (sim_cons (sim_c scal_int) sim_nil)))))) (sim_cons (sim_frz (sim_lst (sim_cons sim_var (sim_cons sim_var (sim_cons (sim_frz (sim_cb cs_list (sim_cons sim_var sim_nil))) sim_nil))))) (sim_cons (sim_frz (sim_tup (sim_cons sim_var (sim_cons sim_var (sim_cons (sim_frz (sim_cb cs_tupOf (sim_cons sim_var sim_nil))) sim_nil))))) (sim_cons (sim_c scal_non) (sim_cons (sim_c scal_str) (sim_cons (sim_frz (sim_tup (sim_cons (sim_c scal_int) (sim_cons sim_var (sim_cons sim_var sim_nil))))) sim_nil)))))))) (simg_name (by decide)))
  (sims_seq (sims_asg (sim_op r2_add sim_move (sim_lst (sim_cons (sim_frz (sim_tup (sim_cons sim_var (sim_cons (sim_c scal_int) (sim_cons sim_var sim_nil))))) (sim_cons (sim_frz (sim_tup (sim_cons sim_var (sim_cons (sim_c scal_int) (sim_cons sim_var sim_nil))))) (sim_cons (sim_frz (sim_tup (sim_cons (sim_c scal_int) (sim_cons sim_var (sim_cons (sim_frz (sim_lst sim_nil)) sim_nil))))) (sim_cons (sim_frz (sim_tup (sim_cons sim_var (sim_cons sim_var (sim_cons (sim_c scal_non) sim_nil))))) (sim_cons (sim_frz (sim_tup (sim_cons (sim_c scal_bl) (sim_cons sim_var (sim_cons (sim_frz (sim_lst sim_nil)) sim_nil))))) (sim_cons (sim_frz (sim_tup (sim_cons sim_var (sim_cons (sim_c scal_bl) (sim_cons sim_var sim_nil))))) sim_nil)))))))) (simg_name (by decide)))
  (sims_seq (sims_asg (sim_op r2_add sim_move (sim_lst (sim_cons (sim_frz (sim_tup (sim_cons sim_var (sim_cons sim_var (sim_cons (sim_frz (sim_op r2_add sim_var (sim_lst (sim_cons (sim_c scal_non) sim_nil)))) sim_nil))))) (sim_cons (sim_frz (sim_tup (sim_cons sim_var (sim_cons sim_var (sim_cons (sim_frz (sim_op r2_add sim_var (sim_lst (sim_cons (sim_frz (sim_tup (sim_cons (sim_op (r2_I fun _ _ => scal_int) (sim_c scal_int) (sim_c scal_int)) (sim_cons (sim_c scal_int) (sim_cons (sim_c scal_int) sim_nil))))) sim_nil)))) sim_nil))))) (sim_cons (sim_frz (sim_tup (sim_cons sim_var (sim_cons sim_var (sim_cons (sim_frz (sim_lst (sim_cons (sim_frz (sim_tup (sim_cons (sim_c scal_int) (sim_cons (sim_c scal_int) (sim_cons sim_var sim_nil))))) sim_nil))) sim_nil))))) (sim_cons (sim_c scal_int) (sim_cons (sim_frz (sim_tup sim_nil)) sim_nil))))))) (simg_name (by decide)))
  (sims_seq (sims_if (sim_test (sim_op (r2_I0 fun _ _ => scal_bl) (sim_cb cs_len (sim_cons sim_var sim_nil)) (sim_cb cs_len (sim_cons sim_var sim_nil)))) (sims_drop (sim_mutL ms_append (sim_cons (sim_frz (sim_tup (sim_cons sim_var (sim_cons sim_var (sim_cons sim_var sim_nil))))) sim_nil))) sims_next)
  (sims_ret (sim_ixO (sim_op (r2_I fun _ _ => scal_int) sim_var (sim_bor (sim_cb cs_len (sim_cons sim_var sim_nil))))))))))
    (e0_x hx h) (by decide) hb
theorem ok__law_unwritten (B : Blt mg) (C : Cst mg) (F : FunD K mg "_law_unwritten" s__law_unwritten ["thing"]) {C_PlyError : Addr} {C_NoNet : Addr} {C_Clash : Addr} {C_NoLayers : Addr} {C_NoPlaces : Addr} {C_NoText : Addr} {C_NoTies : Addr} (G_PlyError : mg "PlyError" = some (.ref C_PlyError)) (G_NoNet : mg "NoNet" = some (.ref C_NoNet)) (G_Clash : mg "Clash" = some (.ref C_Clash)) (G_NoLayers : mg "NoLayers" = some (.ref C_NoLayers)) (G_NoPlaces : mg "NoPlaces" = some (.ref C_NoPlaces)) (G_NoText : mg "NoText" = some (.ref C_NoText)) (G_NoTies : mg "NoTies" = some (.ref C_NoTies)) {w_net_text : WF} (c_net_text : CalX P w K mg base "net_text" 7 1 w_net_text) {w__law_unwritten : WF} (hx : ∀ os q x, w__law_unwritten os q x → w__law_unwritten os q fun _ _ => False)
    (hb : ∀ os q x, os.length = 1 → w__law_unwritten os q x → frs_ [] 0 os = true ∧ bd__law_unwritten K C_PlyError C_NoNet C_Clash C_NoLayers C_NoPlaces C_NoText C_NoTies w_net_text { nx := fun ρ => fin [] os ρ (q (.fr .none)), rt := fun o ρ => fin [] os ρ (q o), xc := fun xd ρ => fin [] os ρ (x xd) } (os.map some ++ List.replicate 2 none)) :
    Cal P w K mg base "_law_unwritten" 8 1 w__law_unwritten := by
  refine Cal.mk1 F sc__law_unwritten rfl fun f cdv A outer s H vs Q E hr h => ?_
  refine ⟨_, (pss_cons (ps_set (i := 1) sc__law_unwritten.nd rfl (by first | exact Or.inl rfl | exact Or.inr rfl) pe_non)
  (pss_cons (ps_try_keep (i := 2) (j := 1) rfl rfl rfl sc__law_unwritten.nd rfl rfl ⟨by rfl, by decide, .inl G_PlyError⟩ (fun _ _ _ => pss_one (ps_set (i := 1) sc__law_unwritten.nd rfl (by first | exact Or.inl rfl | exact Or.inr rfl) (pv 2))) (fun W pn xe tk => pss_one (ps_expr (pe_calS K c_net_text (hr.mono (by decide)) (by rfl) tk (pa_cons (pv 0) pa_nil)))))
  (pss_cons (ps_if (PW.pt (pw_or (pt_not (pt_val (pe_callB (call_isX rfl) (by rfl) B.b_isinstance b_isinstance (pa_cons (pv 1) (pa_cons (pe_glob (v := .ref C_NoNet) (by rfl) G_NoNet rfl) pa_nil))))) (pw_or1 (pt_not (pt_val (pe_callB (call_isX rfl) (by rfl) B.b_isinstance b_isinstance (pa_cons (pv 1) (pa_cons (pe_bltn (v := .ty "ValueError") (by rfl) B.b_ValueError b_ValueError rfl) pa_nil)))))))) (pss_one (ps_ret pe_bl)) pss_nil)
  (pss_one (ps_ret (pe_not (pe_callB (call_isXT rfl) (by rfl) B.b_isinstance b_isinstance (pa_cons (pv 1) (pa_cons (pe_tup (pa_cons (pe_glob (v := .ref C_Clash) (by rfl) G_Clash rfl) (pa_cons (pe_glob (v := .ref C_NoLayers) (by rfl) G_NoLayers rfl) (pa_cons (pe_glob (v := .ref C_NoPlaces) (by rfl) G_NoPlaces rfl) (pa_cons (pe_glob (v := .ref C_NoText) (by rfl) G_NoText rfl) (pa_cons (pe_glob (v := .ref C_NoTies) (by rfl) G_NoTies rfl) pa_nil)))))) pa_nil))))))))), ?_⟩
  exact body_of (io := []) (t := bd__law_unwritten K C_PlyError C_NoNet C_Clash C_NoLayers C_NoPlaces C_NoText C_NoTies w_net_text) (E := E0)
    (sims_seq (sims_asg (sim_c scal_non) (simg_name (by decide)))
  (sims_seq (sims_tryD (by decide) (by decide) (by decide) (fun _ => (sim_consR sim_var sim_nilR)))
  (sims_seq (sims_if (sim_or (sim_not (sim_B (sim_isX (c := .ref C_NoNet) (cv := .ref C_NoNet) fun _ h => h))) (sim_not (sim_B (sim_isX (c := .ty "ValueError") (cv := .type "ValueError") fun _ h => h)))) (sims_ret (sim_c scal_bl)) sims_next)
  (sims_ret (sim_notV (sim_isXT (cs := [C_Clash, C_NoLayers, C_NoPlaces, C_NoText, C_NoTies]) (by simp)))))))
    (e0_x hx h) (by decide) hb
theorem ok_law (B : Blt mg) (C : Cst mg) {f0 : Addr} {fd0 : FuncData} (F : Fun K "law" "law" s_law f0 fd0) {w__law_numbers : WF} (c__law_numbers : Cal P w K mg base "_law_numbers" 2 3 w__law_numbers) {w__law_record : WF} (c__law_record : Cal P w K mg base "_law_record" 2 2 w__law_record) {w__law_depth : WF} (c__law_depth : Cal P w K mg base "_law_depth" 1 1 w__law_depth) {w__law_numbered : WF} (c__law_numbered : Cal P w K mg base "_law_numbered" 2 3 w__law_numbered) {w__law_text : WF} (c__law_text : Cal P w K mg base "_law_text" 1 1 w__law_text) {w__law_read : WF} (c__law_read : Cal P w K mg base "_law_read" 8 1 w__law_read) {w__law_due : WF} (c__law_due : Cal P w K mg base "_law_due" 3 3 w__law_due) {w__law_bad : WF} (c__law_bad : Cal P w K mg base "_law_bad" 2 4 w__law_bad) {w__law_unwritten : WF} (c__law_unwritten : Cal P w K mg base "_law_unwritten" 8 1 w__law_unwritten) {w__law_no_net : WF} (c__law_no_net : Cal P w K mg base "_law_no_net" 1 5 w__law_no_net) {w_law : WF} (hx : ∀ os q x, w_law os q x → w_law os q fun _ _ => False)
    (hb : ∀ os q x, os.length = 1 → w_law os q x → frs_ [] 0 os = true ∧ bd_law w__law_numbers w__law_record w__law_depth w__law_numbered w__law_text w__law_read w__law_due w__law_bad w__law_unwritten w__law_no_net { nx := fun ρ => fin [] os ρ (q (.fr .none)), rt := fun o ρ => fin [] os ρ (q o), xc := fun xd ρ => fin [] os ρ (x xd) } (os.map some ++ List.replicate 13 none)) :
    FnOk P w K mg base CX0 9 f0 fd0 ["script"] (spO K 1 w_law) := by
  refine fn_mk1 F sc_law rfl fun f cdv A outer s H vs Q E hr h => ?_
  refine ⟨_, (pss_cons (ps_for PassesOwn.never rfl (pi_listK K (pe_op (addK K) (pe_slice (slK K) (pv 0) po_none (po_some pe_int)) (pe_lst (pa_cons (pe_callB (lenK K) (by rfl) B.b_len b_len (pa_cons (pv 0) pa_nil)) pa_nil)))) (pg_name (i := 1) sc_law.nd rfl (by first | exact Or.inl rfl | exact Or.inr rfl)) (pss_cons (ps_set (i := 2) sc_law.nd rfl (by first | exact Or.inl rfl | exact Or.inr rfl) (pe_calK K c__law_numbers (hr.mono (by decide)) (by rfl) (pa_cons (pv 1) (pa_cons pe_int (pa_cons (pe_op op_pow pe_int pe_int) pa_nil)))))
    (pss_cons (ps_asg (pe_calK K c__law_record (hr.mono (by decide)) (by rfl) (pa_cons (pe_slice (slK K) (pv 2) (po_some pe_int) po_none) (pa_cons pe_int pa_nil))) (pg_tupK K 2 rfl (pgs_cons (pg_name (i := 8) sc_law.nd rfl (by first | exact Or.inl rfl | exact Or.inr rfl)) (pgs_cons (pg_name (i := 9) sc_law.nd rfl (by first | exact Or.inl rfl | exact Or.inr rfl)) pgs_nil))))
    (pss_cons (ps_set (i := 3) sc_law.nd rfl (by first | exact Or.inl rfl | exact Or.inr rfl) (pe_calK K c__law_depth (hr.mono (by decide)) (by rfl) (pa_cons (pe_ix (ixK K) (pv 2) pe_int (fun _ _ => rfl)) pa_nil)))
    (pss_cons (ps_set (i := 4) sc_law.nd rfl (by first | exact Or.inl rfl | exact Or.inr rfl) (pe_calK K c__law_numbered (hr.mono (by decide)) (by rfl) (pa_cons (pv 8) (pa_cons (pv 9) (pa_cons (pv 3) pa_nil)))))
    (pss_cons (by first | exact ps_setLc (i := 5) (own := [("tie", 12), ("number", 13)]) rfl sc_law.nd rfl rfl (sw_true rfl rfl rfl (by decide +kernel)) (pi_zip (by rfl) B.b_zip (pa_cons (pv 9) (pa_cons (pv 4) pa_nil))) (blkOk_by (own := [("tie", 12), ("number", 13)]) (N := N_law) (sc := defScope s_law) (by decide +kernel)) (fun _ _ _ _ _ => (pg_tupK K 2 rfl (pgs_cons (pg_name (i := 12) sc_law.nd rfl (by first | exact Or.inl rfl | exact Or.inr rfl)) (pgs_cons (pg_name (i := 13) sc_law.nd rfl (by first | exact Or.inl rfl | exact Or.inr rfl)) pgs_nil)))) (fun _ _ _ _ _ => (pts_one (pt_cmpR op_gt (pv 13) pe_int (nomark _)))) (fun _ _ _ _ _ => (pv 12)) | exact ps_set (i := 5) sc_law.nd rfl (by first | exact Or.inl rfl | exact Or.inr rfl) (pe_lc (own := [("tie", 12), ("number", 13)]) rfl sc_law.nd (pi_zip (by rfl) B.b_zip (pa_cons (pv 9) (pa_cons (pv 4) pa_nil))) (blkOk_by (own := [("tie", 12), ("number", 13)]) (N := N_law) (sc := defScope s_law) (by decide +kernel)) (fun _ _ _ _ _ => (pg_tupK K 2 rfl (pgs_cons (pg_name (i := 12) sc_law.nd rfl (by first | exact Or.inl rfl | exact Or.inr rfl)) (pgs_cons (pg_name (i := 13) sc_law.nd rfl (by first | exact Or.inl rfl | exact Or.inr rfl)) pgs_nil)))) (fun _ _ _ _ _ => (pts_one (pt_cmpR op_gt (pv 13) pe_int (nomark _)))) (fun _ _ _ _ _ => (pv 12))))
    (pss_cons (ps_for PassesOwn.never rfl (pi_listK K (pe_lst (pa_cons (pe_tup (pa_cons (pv 8) (pa_cons (pv 3) (pa_cons (pv 5) pa_nil)))) (pa_cons (pe_tup (pa_cons (pv 8) (pa_cons (pv 3) (pa_cons (pv 9) pa_nil)))) (pa_cons (pe_tup (pa_cons (pv 8) (pa_cons (pe_op (addK K) pe_int (pe_op op_mod (pe_ix (ixK K) (pv 2) pe_int (fun _ _ => rfl)) pe_int)) (pa_cons (pv 5) pa_nil)))) pa_nil))))) (pg_tupK K 3 rfl (pgs_cons (pg_name (i := 6) sc_law.nd rfl (by first | exact Or.inl rfl | exact Or.inr rfl)) (pgs_cons (pg_name (i := 10) sc_law.nd rfl (by first | exact Or.inl rfl | exact Or.inr rfl)) (pgs_cons (pg_name (i := 11) sc_law.nd rfl (by first | exact Or.inl rfl | exact Or.inr rfl)) pgs_nil)))) (pss_cons (ps_set (i := 7) sc_law.nd rfl (by first | exact Or.inl rfl | exact Or.inr rfl) (pe_op (addK K) (pe_op (addK K) (pe_op (addK K) (pe_op (addK K) (pe_callTy call_str_int (by rfl) B.b_str b_str (pa_cons (pv 6) pa_nil)) pe_str) (pe_callTy call_str_int (by rfl) B.b_str b_str (pa_cons (pv 10) pa_nil))) pe_str) (pe_calK K c__law_text (hr.mono (by decide)) (by rfl) (pa_cons (pv 11) pa_nil))))
      (pss_one (ps_if (pt_cmpR (neK K (hu65 hr)) (pe_calK K c__law_read (hr.mono (by decide)) (by rfl) (pa_cons (pv 7) pa_nil)) (pe_calK K c__law_due (hr.mono (by decide)) (by rfl) (pa_cons (pv 6) (pa_cons (pv 10) (pa_cons (pv 11) pa_nil)))) (nomark _)) (pss_one (ps_ret pe_bl)) pss_nil))))
    (pss_cons (ps_set (i := 6) sc_law.nd rfl (by first | exact Or.inl rfl | exact Or.inr rfl) (pe_op op_mod (pe_ix (ixK K) (pv 2) pe_int (fun _ _ => rfl)) pe_int))
    (pss_cons (ps_set (i := 7) sc_law.nd rfl (by first | exact Or.inl rfl | exact Or.inr rfl) (pe_op (addK K) (pe_op (addK K) (pe_op (addK K) (pe_op (addK K) (pe_callTy call_str_int (by rfl) B.b_str b_str (pa_cons (pv 6) pa_nil)) pe_str) (pe_callTy call_str_int (by rfl) B.b_str b_str (pa_cons (pv 3) pa_nil))) pe_str) (pe_calK K c__law_text (hr.mono (by decide)) (by rfl) (pa_cons (pv 5) pa_nil))))
    (pss_cons (ps_if (pt_cmpR (neK K (hu65 hr)) (pe_calK K c__law_read (hr.mono (by decide)) (by rfl) (pa_cons (pv 7) pa_nil)) (pe_calK K c__law_due (hr.mono (by decide)) (by rfl) (pa_cons (pv 6) (pa_cons (pv 3) (pa_cons (pv 5) pa_nil)))) (nomark _)) (pss_one (ps_ret pe_bl)) pss_nil)
    (pss_cons (ps_if (pt_cmpR op_notN (pe_calK K c__law_read (hr.mono (by decide)) (by rfl) (pa_cons (pe_calK K c__law_bad (hr.mono (by decide)) (by rfl) (pa_cons (pv 8) (pa_cons (pv 3) (pa_cons (pv 5) (pa_cons (pe_ix (ixK K) (pv 2) pe_int (fun _ _ => rfl)) pa_nil))))) pa_nil)) pe_non (nomark _)) (pss_one (ps_ret pe_bl)) pss_nil)
    (pss_one (ps_if (pt_not (pt_val (pe_calK K c__law_unwritten (hr.mono (by decide)) (by rfl) (pa_cons (pe_calK K c__law_no_net (hr.mono (by decide)) (by rfl) (pa_cons (pv 8) (pa_cons (pv 3) (pa_cons (pv 5) (pa_cons (pv 9) (pa_cons (pe_ix (ixK K) (pv 2) pe_int (fun _ _ => rfl)) pa_nil)))))) pa_nil)))) (pss_one (ps_ret pe_bl)) pss_nil)))))))))))))
  (pss_one (ps_ret pe_bl))), ?_⟩
  exact body_of (io := []) (t := bd_law w__law_numbers w__law_record w__law_depth w__law_numbered w__law_text w__law_read w__law_due w__law_bad w__law_unwritten w__law_no_net) (E := E0)
    (sims_seq (sims_for (sim_items (sim_frz (sim_op r2_add (sim_slL sim_var sim_noPart (sim_part (sim_c scal_int))) (sim_lst (sim_cons (sim_cb cs_len (sim_cons sim_var sim_nil)) sim_nil))))) (simg_name (by decide)) (sims_seq (sims_asg (sim_frz (sim_call (fun _ _ => rfl) (sim_consR sim_var (sim_consR (sim_c scal_int) (sim_consR (sim_op (r2_I fun _ _ => scal_int) (sim_c scal_int) (sim_c scal_int)) sim_nilR))))) (simg_name (by decide)))
    (sims_seq (sims_asg (sim_call (fun _ _ => rfl) (sim_consR (sim_frz (sim_slL sim_var (sim_part (sim_c scal_int)) sim_noPart)) (sim_consR (sim_c scal_int) sim_nilR))) (simg_tup (simg_cons (simg_name (by decide)) (simg_cons (simg_name (by decide)) simg_nil))))
    (sims_seq (sims_asg (sim_call (fun _ _ => rfl) (sim_consR (sim_op r2_ix sim_var (sim_c scal_int)) sim_nilR)) (simg_name (by decide)))
    (sims_seq (sims_asg (sim_frz (sim_call (fun _ _ => rfl) (sim_consR sim_var (sim_consR sim_var (sim_consR sim_var sim_nilR))))) (simg_name (by decide)))
    (sims_seq (sims_asg (sim_frz (sim_lc (sim_zip (sim_cons sim_var (sim_cons sim_var sim_nil))) (fun kc h => (simg_tup (simg_cons (simg_name (h 12 (by decide))) (simg_cons (simg_name (h 13 (by decide))) simg_nil)))) (sim_test (sim_op (r2_I0 fun _ _ => scal_bl) sim_var (sim_c scal_int))) sim_var)) (simg_name (by decide)))
    (sims_seq (sims_for (sim_items (sim_frz (sim_lst (sim_cons (sim_frz (sim_tup (sim_cons sim_var (sim_cons sim_var (sim_cons sim_var sim_nil))))) (sim_cons (sim_frz (sim_tup (sim_cons sim_var (sim_cons sim_var (sim_cons sim_var sim_nil))))) (sim_cons (sim_frz (sim_tup (sim_cons sim_var (sim_cons (sim_op r2_add (sim_c scal_int) (sim_op (r2_I fun _ _ => scal_int) (sim_op r2_ix sim_var (sim_c scal_int)) (sim_c scal_int))) (sim_cons sim_var sim_nil))))) sim_nil)))))) (simg_tup (simg_cons (simg_name (by decide)) (simg_cons (simg_name (by decide)) (simg_cons (simg_name (by decide)) simg_nil)))) (sims_seq (sims_asg (sim_op r2_add (sim_op r2_add (sim_op r2_add (sim_op r2_add (sim_cb cs_str (sim_cons sim_var sim_nil)) (sim_c scal_str)) (sim_cb cs_str (sim_cons sim_var sim_nil))) (sim_c scal_str)) (sim_call (fun _ _ => rfl) (sim_consR sim_var sim_nilR))) (simg_name (by decide)))
      (sims_if (sim_test (sim_op r2_ne (sim_frz (sim_call (fun _ _ => rfl) (sim_consR sim_var sim_nilR))) (sim_call (fun _ _ => rfl) (sim_consR sim_var (sim_consR sim_var (sim_consR sim_var sim_nilR)))))) (sims_ret (sim_c scal_bl)) sims_next)))
    (sims_seq (sims_asg (sim_op (r2_I fun _ _ => scal_int) (sim_op r2_ix sim_var (sim_c scal_int)) (sim_c scal_int)) (simg_name (by decide)))
    (sims_seq (sims_asg (sim_op r2_add (sim_op r2_add (sim_op r2_add (sim_op r2_add (sim_cb cs_str (sim_cons sim_var sim_nil)) (sim_c scal_str)) (sim_cb cs_str (sim_cons sim_var sim_nil))) (sim_c scal_str)) (sim_call (fun _ _ => rfl) (sim_consR sim_var sim_nilR))) (simg_name (by decide)))
    (sims_seq (sims_if (sim_test (sim_op r2_ne (sim_frz (sim_call (fun _ _ => rfl) (sim_consR sim_var sim_nilR))) (sim_call (fun _ _ => rfl) (sim_consR sim_var (sim_consR sim_var (sim_consR sim_var sim_nilR)))))) (sims_ret (sim_c scal_bl)) sims_next)
    (sims_seq (sims_if (sim_test (sim_op r2_notN (sim_frz (sim_call (fun _ _ => rfl) (sim_consR (sim_call (fun _ _ => rfl) (sim_consR sim_var (sim_consR sim_var (sim_consR sim_var (sim_consR (sim_op r2_ix sim_var (sim_c scal_int)) sim_nilR))))) sim_nilR))) (sim_c scal_non))) (sims_ret (sim_c scal_bl)) sims_next)
    (sims_if (sim_not (sim_B (sim_call (fun _ _ => rfl) (sim_consR (sim_call (fun _ _ => rfl) (sim_consR sim_var (sim_consR sim_var (sim_consR sim_var (sim_consR sim_var (sim_consR (sim_op r2_ix sim_var (sim_c scal_int)) sim_nilR)))))) sim_nilR)))) (sims_ret (sim_c scal_bl)) sims_next))))))))))))
  (sims_ret (sim_c scal_bl)))
    (e0_x hx h) (by decide) hb
end
end K57
set_option Elab.async false
set_option linter.all false
set_option maxRecDepth 100000
set_option maxHeartbeats 2000000
namespace K57
open PySem PySem.Spec PyProof.Rows L2 DL TL
/-- the goal of a def's proof -/
abbrev Body (bd : DT) (io : List Nat) (w_ : WF) (n m : Nat) : Prop := ∀ os q x, os.length = n → w_ os q x → frs_ io 0 os = true ∧ bd { nx := fun ρ => fin io os ρ (q (.fr .none)), rt := fun o ρ => fin io os ρ (q o), xc := fun xd ρ => fin io os ρ (x xd) } (os.map some ++ List.replicate m none)
def isWh : D → Bool
  | .int _ => true
  | _ => false
def isMany : D → Bool
  | .int i => decide (1 ≤ i) && decide (i ≤ 10)
  | _ => false
def isPl (n : Int) : D → Bool
  | .int i => decide (0 ≤ i) && decide (i < n)
  | _ => false
def isMom : D → Bool
  | .int i => decide (0 ≤ i) && decide (i ≤ 1000000000000000000000000000000)
  | _ => false
def isMeet (n : Int) : D → Bool
  | .tuple [a, b, c] => isMom a && (isPl n b && isPl n c)
  | _ => false
def isTie (n : Int) : D → Bool
  | .tuple [a, .int b, .int c] => isMom a && isPl n (.int b) && isPl n (.int c) && decide (b ≤ c)
  | _ => false
def momD : D → Int
  | .tuple (.int m :: _) => m
  | _ => 0
def risD (ds : List D) : Bool := (List.range (ds.length - 1)).all fun k => decide (momD (ds.getD k .none) < momD (ds.getD (k + 1) .none))
def isRec (n : Int) : D → Bool
  | .list ds => decide (ds.length ≤ 60) && (ds.all (isTie n) && risD ds)
  | _ => false
/-- a def of one thing that answers by a truth -/
def wB1 (f : D → Bool) : WF := fun os q _ => ∃ d, os = [.fr d] ∧ q (.fr (.bool (f d))) [.fr d]
def wB2 (f : Int → D → Bool) : WF := fun os q _ => ∃ n d, os = [.fr (.int n), .fr d] ∧ q (.fr (.bool (f n d))) [.fr (.int n), .fr d]
@[simp] theorem wB1_iff {f : D → Bool} {d : D} {q x} : wB1 f [.fr d] q x ↔ q (.fr (.bool (f d))) [.fr d] := ⟨fun ⟨d', e, h⟩ => by cases e; exact h, fun h => ⟨d, rfl, h⟩⟩
@[simp] theorem wB2_iff {f : Int → D → Bool} {n : Int} {d : D} {q x} : wB2 f [.fr (.int n), .fr d] q x ↔ q (.fr (.bool (f n d))) [.fr (.int n), .fr d] := ⟨fun ⟨n', d', e, h⟩ => by cases e; exact h, fun h => ⟨n, d, rfl, h⟩⟩
theorem b_is_whole : Body bd_is_whole [] (wB1 isWh) 1 0 := by
  rintro os q x _ ⟨d, rfl, h⟩
  cases d <;> simp_all [bd_is_whole, isWh]
theorem b_is_many : Body (bd_is_many (wB1 isWh)) [] (wB1 isMany) 1 0 := by
  rintro os q x _ ⟨d, rfl, h⟩
  cases d <;> simp_all [bd_is_many, isWh, isMany]
  split <;> simp_all
theorem b_is_place : Body (bd_is_place (wB1 isWh)) [] (wB2 isPl) 2 0 := by
  rintro os q x _ ⟨n, d, rfl, h⟩
  cases d <;> simp_all [bd_is_place, isWh, isPl]
  split <;> simp_all
theorem b_is_moment : Body (bd_is_moment (wB1 isWh)) [] (wB1 isMom) 1 0 := by
  rintro os q x _ ⟨d, rfl, h⟩
  cases d <;> simp_all [bd_is_moment, isWh, isMom]
  split <;> simp_all
theorem b_is_meeting : Body (bd_is_meeting (wB1 isMom) (wB2 isPl)) [] (wB2 isMeet) 2 0 := by
  rintro os q x _ ⟨n, d, rfl, h⟩
  cases d with
  | tuple ds =>
    match ds with
    | [] => simp_all [bd_is_meeting, isMeet]
    | [a] => simp_all [bd_is_meeting, isMeet]
    | [a, b] => simp_all [bd_is_meeting, isMeet]
    | [a, b, c] =>
      simp [bd_is_meeting, isMeet] at h ⊢
      cases h1 : isMom a <;> cases h2 : isPl n b <;> cases h3 : isPl n c <;> simp_all
    | a :: b :: c :: d :: r =>
      have : ¬ ((r.length : Int) + 1 + 1 + 1 + 1 = 3) := by omega
      simp_all [bd_is_meeting, isMeet]
  | _ => simp_all [bd_is_meeting, isMeet]
theorem b_is_tie : Body (bd_is_tie (wB2 isMeet)) [] (wB2 isTie) 2 0 := by
  rintro os q x _ ⟨n, d, rfl, h⟩
  cases hm : isMeet n d with
  | false =>
    have e : isTie n d = false := by
      unfold isTie
      split
      · rename_i a b c
        simp [isMeet] at hm
        simp
        intro h1 h2 h3
        simp [hm h1 h2] at h3
      · rfl
    simp_all [bd_is_tie]
  | true =>
    unfold isMeet at hm
    split at hm
    · rename_i a b c _
      simp at hm
      obtain ⟨h1, h2, h3⟩ := hm
      have ib : ∃ i : Int, b = PyData.int i := by cases b <;> simp_all [isPl]
      have ic : ∃ i : Int, c = PyData.int i := by cases c <;> simp_all [isPl]
      obtain ⟨i, rfl⟩ := ib
      obtain ⟨j, rfl⟩ := ic
      have e : isMeet n (.tuple [a, .int i, .int j]) = true := by simp [isMeet, h1, h2, h3]
      simp [isTie, h1, h2, h3] at h
      simpa [bd_is_tie, e, h1] using h
    · cases hm
theorem tie_mom {n : Int} {d : D} (h : isTie n d = true) : ∃ m a b, d = .tuple [.int m, .int a, .int b] ∧ 0 ≤ m ∧ m ≤ 10 ^ 30 ∧ 0 ≤ a ∧ a < n ∧ 0 ≤ b ∧ b < n ∧ a ≤ b := by
  unfold isTie at h
  split at h
  · rename_i a b c
    cases a <;> simp [isMom, isPl] at h
    rename_i i
    refine ⟨i, b, c, rfl, ?_⟩
    omega
  · cases h
theorem lcL_rng {g : GT} {tt : BT} {te : ET} {vs : List Nat} {x : XP} {ρ : DL.Env} {q : O → DL.Env → Prop} {lo : Int} {n : Nat} (f : Nat → O)
    (hs : ∀ j, j < n → ∀ k : Option O → DL.Env → Prop, k (some (f j)) ρ → stepLc g tt te vs x (.int (lo + j)) ρ k) (hl : n ≤ 16000000) (h : q (.ol ((List.range n).map f)) ρ) : dLcL g tt te vs x (rngD lo n) [] ρ q := by
  refine lcL_map (fun d => match d with | .int i => f (i - lo).toNat | _ => .fr .none) _ ?_ (by simpa [rngD] using hl) ?_
  · intro d hd k hk
    unfold rngD at hd
    obtain ⟨j, hj, rfl⟩ := List.mem_map.mp hd
    refine hs j (List.mem_range.mp hj) k ?_
    have : (lo + (j : Int) - lo).toNat = j := by omega
    simpa [this] using hk
  · unfold rngD
    rw [List.map_map]
    have e : (List.range n).map ((fun d => match d with | PyData.int i => f (i - lo).toNat | _ => O.fr .none) ∘ fun (k : Nat) => PyData.int (lo + (k : Int))) = (List.range n).map f := by
      refine List.map_congr_left fun j _ => ?_
      have : (lo + (j : Int) - lo).toNat = j := by omega
      simp [this]
    rw [← e] at h
    exact h
theorem b_is_record : Body (bd_is_record (wB2 isTie)) [] (wB2 isRec) 2 2 := by
  rintro os q x _ ⟨n, d, rfl, h⟩
  cases d with
  | list ds =>
    by_cases hl : ds.length ≤ 60
    · have hl' : ¬ (60 < (ds.length : Int)) := by omega
      simp [bd_is_record, hl']
      refine lcL_map (fun d => .fr (.bool (isTie n d))) ds (fun d hd k hk => by simpa using hk) (by omega) ?_
      by_cases ha : ∃ a, a ∈ ds ∧ isTie n a = false
      · have e : isRec n (.list ds) = false := by
          obtain ⟨a, h1, h2⟩ := ha
          have : ds.all (isTie n) = false := List.all_eq_false.mpr ⟨a, h1, by simp [h2]⟩
          simp [isRec, this]
        simpa [fAll, bools_of, ha, e] using h
      · have ht : ∀ a ∈ ds, isTie n a = true := by simpa using ha
        have e : isRec n (.list ds) = risD ds := by
          have : ds.all (isTie n) = true := List.all_eq_true.mpr ht
          simp [isRec, this, hl]
        simp [fAll, bools_of, ha]
        refine ⟨by simp; omega, ?_⟩
        refine lcL_rng (n := (((ds.map O.fr).length : Int) - 1).toNat) (fun k => .fr (.bool (decide (momD (ds.getD k .none) < momD (ds.getD (k + 1) .none))))) ?_ (by simp; omega) ?_
        · intro j hj k hk
          simp at hj
          have l1 : j < ds.length := by omega
          have l2 : j + 1 < ds.length := by omega
          obtain ⟨m1, a1, b1, e1, -⟩ := tie_mom (ht _ (List.getElem_mem l1))
          obtain ⟨m2, a2, b2, e2, -⟩ := tie_mom (ht _ (List.getElem_mem l2))
          have f1 : ds.getD j .none = .tuple [.int m1, .int a1, .int b1] := by rw [← e1]; simp [List.getD_eq_getElem?_getD, List.getElem?_eq_getElem l1]
          have f2 : ds.getD (j + 1) .none = .tuple [.int m2, .int a2, .int b2] := by rw [← e2]; simp [List.getD_eq_getElem?_getD, List.getElem?_eq_getElem l2]
          have g1 : atI ds (1 + (j : Int) - 1) = some (.tuple [.int m1, .int a1, .int b1]) := by
            rw [show (1 + (j : Int) - 1) = (j : Int) by omega, atI_nat' l1, List.getElem?_eq_getElem l1, e1]
          have g2 : atI ds (1 + (j : Int)) = some (.tuple [.int m2, .int a2, .int b2]) := by
            rw [show (1 + (j : Int)) = ((j + 1 : Nat) : Int) by omega, atI_nat' l2, List.getElem?_eq_getElem l2, e2]
          rw [f1, f2] at hk
          simp [momD] at hk
          simp [g1, g2]
          exact hk
        · simp [bools_of]
          rw [e] at h
          simpa [risD] using h
    · have hl' : (60 < (ds.length : Int)) := by omega
      simp_all [bd_is_record, isRec]
  | _ => simp_all [bd_is_record, isRec]
def isDep : D → Bool
  | .int i => decide (1 ≤ i) && decide (i ≤ 6)
  | _ => false
def isCnt (d : D) (m : Int) : Bool := match d with
  | .int i => decide (1 ≤ i) && decide (i ≤ m)
  | _ => false
/-- ints as owned items -/
abbrev oI (l : List Int) : List O := l.map fun i => O.fr (.int i)
theorem b_is_depth : Body (bd_is_depth (wB1 isWh)) [] (wB1 isDep) 1 0 := by
  rintro os q x _ ⟨d, rfl, h⟩
  cases d <;> simp_all [bd_is_depth, isWh, isDep]
  split <;> simp_all
def wLook : WF := fun os q _ => ∃ d, os = [.fr d] ∧ isDep d = true ∧ q (.fr .none) [.fr d]
@[simp] theorem wLook_iff {d : D} {q x} : wLook [.fr d] q x ↔ isDep d = true ∧ q (.fr .none) [.fr d] := ⟨fun ⟨d', e, h⟩ => by cases e; exact h, fun h => ⟨d, rfl, h⟩⟩
theorem b_look : Body (bd_look_at_layers (wB1 isDep)) [] wLook 1 0 := by
  rintro os q x _ ⟨d, rfl, hd, h⟩
  simp_all [bd_look_at_layers]
def wCnt : WF := fun os q _ => ∃ d m, os = [.fr d, .fr (.int m)] ∧ q (.fr (.bool (isCnt d m))) [.fr d, .fr (.int m)]
@[simp] theorem wCnt_iff {d : D} {m : Int} {q x} : wCnt [.fr d, .fr (.int m)] q x ↔ q (.fr (.bool (isCnt d m))) [.fr d, .fr (.int m)] := ⟨fun ⟨d', m', e, h⟩ => by cases e; exact h, fun h => ⟨d, m, rfl, h⟩⟩
theorem b_is_count : Body bd_is_count [] wCnt 2 0 := by
  rintro os q x _ ⟨d, m, rfl, h⟩
  cases d <;> simp_all [bd_is_count, isCnt]
  split <;> simp_all
/-! ### joined, layer_for, layered -/
def jn (m : List Int) (a b : Int) : List Int := m.map fun z => if z = max (gt m a) (gt m b) then min (gt m a) (gt m b) else z
def wJoin : WF := fun os q _ => ∃ m a b, os = [.fr (eI m), .fr (.int a), .fr (.int b)] ∧ m.length ≤ 10 ∧ (0 ≤ a ∧ a < (m.length : Nat)) ∧ (0 ≤ b ∧ b < (m.length : Nat)) ∧ q (.ol (oI (jn m a b))) [.fr (eI m), .fr (.int a), .fr (.int b)]
theorem atI_gt {m : List Int} {a : Int} (h : 0 ≤ a ∧ a < (m.length : Nat)) : atI m a = some (gt m a) := by
  rw [atI_get h.1 h.2, gt_some h.1 h.2]
theorem b_joined : Body bd_joined [] wJoin 3 3 := by
  rintro os q x _ ⟨m, a, b, rfl, hl, ha, hb, h⟩
  simp [bd_joined, eI, atI_gt ha, atI_gt hb]
  refine lcL_mapE m PyData.int (fun z => .fr (.int (if z = max (gt m a) (gt m b) then min (gt m a) (gt m b) else z))) ?_ (by omega) ?_
  · intro z hz k hk
    by_cases e : z = max (gt m a) (gt m b)
    · simp [e] at hk ⊢
      exact hk
    · simp [e] at hk ⊢
      exact hk
  · simpa [jn, eI, Function.comp_def] using h
def lf (a b : Int) : List (List Int) → Int → Int
  | [], _ => 0
  | m :: ms, j => if gt m a = gt m b then lf a b ms (j + 1) else j
def wLF : WF := fun os q _ => ∃ (ms : List (List Int)) (a b : Int), os = [.fr (.list (ms.map eI)), .fr (.int a), .fr (.int b)] ∧ ms.length ≤ 6 ∧ (∀ m ∈ ms, 0 ≤ a ∧ a < (m.length : Nat)) ∧ (∀ m ∈ ms, 0 ≤ b ∧ b < (m.length : Nat)) ∧ q (.fr (.int (lf a b ms 1))) [.fr (.list (ms.map eI)), .fr (.int a), .fr (.int b)]
theorem b_layer_for : Body bd_layer_for [] wLF 3 2 := by
  rintro os q x _ ⟨ms, a, b, rfl, hl, ha, hb, h⟩
  simp [bd_layer_for, enumD]
  rw [List.zipIdx_map, List.map_map]
  refine loop_inv (fun z : List Int × Nat => PyData.tuple [.int (z.2 : Nat), eI z.1]) (fun l ρ => ∃ y1 y2 j, ρ = [some (.fr (.list (ms.map eI))), some (.fr (.int a)), some (.fr (.int b)), y1, y2] ∧ (∀ z ∈ l, z.1 ∈ ms) ∧ l = (l.map (·.1)).zipIdx j ∧ lf a b ms 1 = lf a b (l.map (·.1)) (j + 1)) ?_ ?_ _ _ ?_
  · rintro ⟨m, i⟩ l ρ nx ⟨y1, y2, j, rfl, hm, hz, hf⟩ hn
    simp at hz
    obtain ⟨rfl, hz⟩ := hz
    have h1 := hm _ List.mem_cons_self
    have g1 := atI_gt (ha _ h1)
    have g2 := atI_gt (hb _ h1)
    simp [eI, g1, g2]
    by_cases e : gt m a = gt m b
    · simp [e]
      refine hn _ ⟨_, _, i + 1, rfl, fun z hz => hm z (List.mem_cons_of_mem _ hz), hz, ?_⟩
      rw [hf]
      simp [lf, e]
    · simp [e]
      rw [hf] at h
      simpa [lf, e, eI] using h
  · rintro ρ ⟨y1, y2, j, rfl, -, -, hf⟩
    rw [hf] at h
    simpa [lf] using h
  · refine ⟨none, none, 0, rfl, ?_, ?_, ?_⟩
    · rintro ⟨m, i⟩ hz
      simpa using (List.fst_mem_of_mem_zipIdx hz)
    · simp
    · simp
theorem wJoin_i {m : List Int} {a b : Int} {q x} (hl : m.length ≤ 10) (ha : 0 ≤ a ∧ a < (m.length : Nat)) (hb : 0 ≤ b ∧ b < (m.length : Nat)) (h : q (.ol (oI (jn m a b))) [.fr (eI m), .fr (.int a), .fr (.int b)]) : wJoin [.fr (eI m), .fr (.int a), .fr (.int b)] q x := ⟨m, a, b, rfl, hl, ha, hb, h⟩
theorem wLF_i {ms : List (List Int)} {a b : Int} {q x} (hl : ms.length ≤ 6) (ha : ∀ m ∈ ms, 0 ≤ a ∧ a < (m.length : Nat)) (hb : ∀ m ∈ ms, 0 ≤ b ∧ b < (m.length : Nat)) (h : q (.fr (.int (lf a b ms 1))) [.fr (.list (ms.map eI)), .fr (.int a), .fr (.int b)]) : wLF [.fr (.list (ms.map eI)), .fr (.int a), .fr (.int b)] q x := ⟨ms, a, b, rfl, hl, ha, hb, h⟩
/-- a record of ties between places of n -/
def Pls (n : Int) (r : List Tie) : Prop := ∀ t ∈ r, (0 ≤ t.2.1 ∧ t.2.1 < n) ∧ (0 ≤ t.2.2 ∧ t.2.2 < n)
def wLay : WF := fun os q _ => ∃ (n k : Int) (r : List Tie), os = [.fr (.int n), .fr (eR r), .fr (.int k)] ∧ (1 ≤ n ∧ n ≤ 10) ∧ (1 ≤ k ∧ k ≤ 6) ∧ r.length ≤ 60 ∧ Pls n r ∧ q (.ol (oI (layN k.toNat r))) [.fr (.int n), .fr (eR r), .fr (.int k)]
/-- the marks tell the layers of what was seen -/
def Marks (n k : Nat) (ms : List (List Int)) (d : List (Tie × Int)) : Prop := ms.length = k ∧ ∀ (i : Nat) (m : List Int), ms[i]? = some m → Lab n m (inL ((i : Int) + 1) d)
theorem Marks.len {n k : Nat} {ms d} (h : Marks n k ms d) : ∀ m ∈ ms, m.length = n := fun m hm => by
  obtain ⟨i, hi, e⟩ := List.mem_iff_getElem.mp hm
  exact (h.2 i m (by rw [List.getElem?_eq_getElem hi, e])).len
theorem lf_fst {n : Nat} {a b : Int} (ha : 0 ≤ a ∧ a < n) (hb : 0 ≤ b ∧ b < n) (d : List (Tie × Int)) : ∀ (ms : List (List Int)) (j : Int), (∀ (i : Nat) (m : List Int), ms[i]? = some m → Lab n m (inL (j + i) d)) → lf a b ms j = fstL d a b ms.length j
  | [], _, _ => rfl
  | m :: ms, j, h => by
    have h0 := h 0 m rfl
    have h1 := lf_fst ha hb d ms (j + 1) fun i m' e => by
      have := h (i + 1) m' e
      rwa [show j + ((i + 1 : Nat) : Int) = j + 1 + i by omega] at this
    have e := h0.iff a b ha.1 ha.2 hb.1 hb.2
    rw [show j + ((0 : Nat) : Int) = j by omega] at e
    simp only [lf, fstL, List.length_cons]
    by_cases c : gt m a = gt m b
    · rw [if_pos c, if_pos (e.mp c), h1]
    · rw [if_neg c, if_neg fun x => c (e.mpr x)]
theorem b_layered : Body (bd_layered wLook wLF wJoin) [] wLay 3 6 := by
  rintro os q x _ ⟨n, k, r, rfl, hn, hk, hl, hp, h⟩
  have e1 : isDep (.int k) = true := by simp [isDep, hk]
  simp [bd_layered, e1]
  refine ⟨by omega, by omega, ?_⟩
  refine lcL_rng (n := k.toNat) (fun _ => .fr (eI ((List.range n.toNat).map fun (i : Nat) => (i : Int)))) ?_ (by omega) ?_
  · intro j hj kk hk
    simp at hk ⊢
    refine ⟨by unfold RgOk; omega, ?_⟩
    simpa [rngD, eI, Function.comp_def] using hk
  · simp [eR]
    rw [← List.map_reverse]
    refine loop_inv eT (fun l ρ => ∃ r2 ms y5 y6 y7 y8, r = l.reverse ++ r2 ∧ Marks n.toNat k.toNat ms (lays k.toNat r2) ∧ ρ = [some (.fr (.int n)), some (.fr (eR r)), some (.fr (.int k)), some (.ol (ms.map fun m => .fr (eI m))), some (.ol (oI (layN k.toNat r2).reverse)), y5, y6, y7, y8]) ?_ ?_ _ _ ?_
    · rintro ⟨t0, t1, t2⟩ l ρ nx ⟨r2, ms, y5, y6, y7, y8, hr, hm, rfl⟩ hx
      simp at hr
      have hl2 : r2.length ≤ 60 := by
        rw [hr] at hl
        simp at hl
        omega
      have hp' : (0 ≤ t1 ∧ t1 < n) ∧ (0 ≤ t2 ∧ t2 < n) := hp (t0, t1, t2) (by rw [hr]; simp)
      obtain ⟨hp1, hp2⟩ := hp'
      have ml : ∀ m ∈ ms, m.length = n.toNat := hm.len
      have z : (layN k.toNat r2).length < sizeLine := by rw [layN_len, sizeLine_eq]; omega
      have lfe := lf_fst (n := n.toNat) (a := t1) (b := t2) ⟨hp1.1, by omega⟩ ⟨hp2.1, by omega⟩ (lays k.toNat r2) ms 1 fun i m e => by
        have := hm.2 i m e
        rwa [show ((i : Int) + 1) = 1 + i by omega] at this
      rw [hm.1] at lfe
      have rg := fstL_range (lays k.toNat r2) t1 t2 k.toNat 1
      rw [← lfe] at rg
      have ly : lays k.toNat ((t0, t1, t2) :: r2) = ((t0, t1, t2), lf t1 t2 ms 1) :: lays k.toNat r2 := by
        rw [lfe]
        rfl
      simp [eT, flts_of, ers_of]
      refine wLF_i (by rw [hm.1]; omega) (fun m hmm => by rw [ml m hmm]; omega) (fun m hmm => by rw [ml m hmm]; omega) ?_
      simp
      by_cases c : 0 < lf t1 t2 ms 1
      · simp [c]
        obtain ⟨i0, e0⟩ : ∃ i0 : Nat, lf t1 t2 ms 1 - 1 = (i0 : Int) := ⟨(lf t1 t2 ms 1 - 1).toNat, by omega⟩
        have jl : i0 < ms.length := by rw [hm.1]; omega
        obtain ⟨mm, hmm⟩ : ∃ mm, ms[i0]? = some mm := ⟨_, List.getElem?_eq_getElem jl⟩
        have g : atI ms (lf t1 t2 ms 1 - 1) = some mm := by rw [e0, atI_nat' jl, hmm]
        have g' : ixN ms.length (lf t1 t2 ms 1 - 1) = some i0 := by rw [e0, ixN_nat jl]
        simp [g]
        have mn : mm.length = n.toNat := ml _ (List.mem_of_getElem? hmm)
        refine wJoin_i (by rw [mn]; omega) (by rw [mn]; omega) (by rw [mn]; omega) ?_
        simp [flts_of, ers_of, g', z]
        refine hx _ ⟨(t0, t1, t2) :: r2, ms.set i0 (jn mm t1 t2), some (.fr (.int t0)), some (.fr (.int t1)), some (.fr (.int t2)), some (.fr (.int (lf t1 t2 ms 1))), by simpa using hr, ?_, ?_⟩
        · refine ⟨by simp [hm.1], fun i m hi => ?_⟩
          rw [ly, inL_cons]
          by_cases ei : i = i0
          · subst ei
            rw [List.getElem?_set_self jl] at hi
            cases hi
            rw [if_pos (by omega)]
            have L := hm.2 _ _ hmm
            refine lab_join (t := (t0, t1, t2)) L ⟨hp1.1, by simp; omega⟩ ⟨hp2.1, by simp; omega⟩ ?_
            simp
            omega
          · rw [List.getElem?_set_ne (fun x => ei x.symm)] at hi
            rw [if_neg (by omega)]
            exact hm.2 i m hi
        · simp [List.map_set, layN, ly, eI]
      · have c0 : lf t1 t2 ms 1 = 0 := by omega
        simp [c0, z]
        refine hx _ ⟨(t0, t1, t2) :: r2, ms, some (.fr (.int t0)), some (.fr (.int t1)), some (.fr (.int t2)), some (.fr (.int 0)), by simpa using hr, ?_, ?_⟩
        · refine ⟨hm.1, fun i m hi => ?_⟩
          rw [ly, inL_cons, if_neg (by omega)]
          exact hm.2 i m hi
        · simp [layN, ly, c0]
    · rintro ρ ⟨r2, ms, y5, y6, y7, y8, hr, hm, rfl⟩
      simp at hr
      subst hr
      simpa [eR] using h
    · refine ⟨[], List.replicate k.toNat ((List.range n.toNat).map fun (i : Nat) => (i : Int)), none, none, none, none, by simp, ?_, ?_⟩
      · refine ⟨by simp, fun i m hm => ?_⟩
        have := List.mem_of_getElem? hm
        rw [(List.mem_replicate.mp this).2]
        exact lab_range _
      · simp [eR, layN, lays]
        rw [List.map_const', List.length_range]
theorem wLay_i {n k : Int} {r : List Tie} {q x} (hn : 1 ≤ n ∧ n ≤ 10) (hk : 1 ≤ k ∧ k ≤ 6) (hl : r.length ≤ 60) (hp : Pls n r) (h : q (.ol (oI (layN k.toNat r))) [.fr (.int n), .fr (eR r), .fr (.int k)]) : wLay [.fr (.int n), .fr (eR r), .fr (.int k)] q x := ⟨n, k, r, rfl, hn, hk, hl, hp, h⟩
def unT : D → Tie
  | .tuple [.int a, .int b, .int c] => (a, b, c)
  | _ => (0, 0, 0)
def unR : D → List Tie
  | .list ds => ds.map unT
  | _ => []
theorem unT_eT (t : Tie) : unT (eT t) = t := rfl
theorem unR_eR (r : List Tie) : unR (eR r) = r := by
  unfold unR eR
  simp only [List.map_map]
  conv => rhs; rw [← List.map_id r]
  rfl
theorem isRec_un {n : Int} {d : D} (h : isRec n d = true) : d = eR (unR d) ∧ (unR d).length ≤ 60 ∧ Pls n (unR d) := by
  cases d <;> simp [isRec] at h
  rename_i ds
  obtain ⟨hl, hd, -⟩ := h
  refine ⟨?_, by simpa [unR] using hl, ?_⟩
  · simp only [unR, eR, List.map_map]
    congr 1
    conv => lhs; rw [← List.map_id ds]
    refine List.map_congr_left fun d hm => ?_
    obtain ⟨m, a, b, rfl, -⟩ := tie_mom (hd d hm)
    rfl
  · intro t ht
    simp only [unR] at ht
    obtain ⟨d, hm, rfl⟩ := List.mem_map.mp ht
    obtain ⟨m, a, b, rfl, h1, h2, h3, h4, h5, h6, -⟩ := tie_mom (hd d hm)
    exact ⟨⟨h3, h4⟩, ⟨h5, h6⟩⟩
noncomputable def isNet : D → Bool
  | .tuple [.int n, .int k, rd] => isCnt (.int n) 10 && (isCnt (.int k) 6 && (isRec n rd && !((layN k.toNat (unR rd)).contains 0)))
  | _ => false
def wNet : WF := fun os q _ => ∃ d, os = [.fr d] ∧ q (.fr (.bool (isNet d))) [.fr d]
@[simp] theorem wNet_iff {d : D} {q x} : wNet [.fr d] q x ↔ q (.fr (.bool (isNet d))) [.fr d] := ⟨fun ⟨d', e, h⟩ => by cases e; exact h, fun h => ⟨d, rfl, h⟩⟩
@[simp] theorem flts_oI (l : List Int) : flts (oI l) = true := flts_of l fun i => .int i
@[simp] theorem ers_oI (l : List Int) : ers (oI l) = l.map .int := ers_of l fun i => .int i
theorem any_zero (l : List Int) : (l.any ((fun z : D => z.eqv (.int 0)) ∘ PyData.int)) = decide (0 ∈ l) := by
  induction l with
  | nil => rfl
  | cons a l ih =>
    rw [List.any_cons, ih]
    show ((a == 0) || decide (0 ∈ l)) = _
    by_cases h : a = 0
    · simp [h]
    · have h' : ¬ 0 = a := fun x => h x.symm
      simp [h, h']
theorem b_is_net : Body (bd_is_net wCnt (wB2 isRec) wLay) [] wNet 1 3 := by
  rintro os q x _ ⟨d, rfl, h⟩
  cases d with
  | tuple ds =>
    match ds with
    | [] => simpa [bd_is_net, isNet] using h
    | [a] => simpa [bd_is_net, isNet] using h
    | [a, b] => simpa [bd_is_net, isNet] using h
    | [a, b, c] =>
      cases a with
      | int n =>
        cases b with
        | int k =>
          cases h1 : isCnt (.int n) 10 with
          | false => simpa [bd_is_net, isNet, h1] using h
          | true =>
            cases h2 : isCnt (.int k) 6 with
            | false => simpa [bd_is_net, isNet, h1, h2] using h
            | true =>
              cases h3 : isRec n c with
              | false => simpa [bd_is_net, isNet, h1, h2, h3] using h
              | true =>
                obtain ⟨e, hl, hp⟩ := isRec_un h3
                simp [bd_is_net, h1, h2, h3]
                simp [isCnt] at h1 h2
                rw [e]
                refine wLay_i h1 h2 hl hp ?_
                rw [e] at h
                have e1 : isNet (.tuple [.int n, .int k, eR (unR c)]) = !((layN k.toNat (unR c)).contains 0) := by
                  rw [← e]
                  simp [isNet, isCnt, h1, h2, h3]
                rw [e1] at h
                simp [any_zero]
                refine ⟨sh_int.shaped (k := 1), (sh_eI _).shaped, ?_⟩
                simpa using h
        | _ =>
          have h2 : ∀ v : D, (∀ i, v ≠ .int i) → isCnt v 6 = false := fun v hv => by cases v <;> simp_all [isCnt]
          cases h1 : isCnt (.int n) 10 <;> simpa [bd_is_net, isNet, h1, h2] using h
      | _ =>
        have h2 : ∀ v : D, (∀ i, v ≠ .int i) → isCnt v 10 = false := fun v hv => by cases v <;> simp_all [isCnt]
        simpa [bd_is_net, isNet, h2] using h
    | a :: b :: c :: d :: r =>
      have : ¬ ((r.length : Int) + 1 + 1 + 1 + 1 = 3) := by omega
      simpa [bd_is_net, isNet, this] using h
  | _ => simpa [bd_is_net, isNet] using h
theorem isRec_bd {n : Int} {r : List Tie} (h : isRec n (eR r) = true) (hn : n ≤ 10) : r.length ≤ 60 ∧ (∀ t ∈ r, TBd t) := by
  obtain ⟨-, hl, hp⟩ := isRec_un h
  rw [unR_eR] at hl hp
  refine ⟨hl, fun t ht => ?_⟩
  have h1 : isTie n (eT t) = true := by
    simp [isRec, eR] at h
    exact h.2.1 t.1 t.2.1 t.2.2 ht
  obtain ⟨m, a, b, e, h2⟩ := tie_mom h1
  simp [eT] at e
  obtain ⟨e1, e2, e3⟩ := e
  subst e1 e2 e3
  exact ⟨by omega, by omega, by omega, by omega, by omega, by omega⟩
theorem log_ok {i : Int} (h0 : 0 ≤ i) (h : i ≤ 10 ^ 60) : i.natAbs.log2 < 1920 := by
  by_cases z : i.natAbs = 0
  · rw [z]; decide
  · rw [Nat.log2_lt z]
    have : i.natAbs ≤ 10 ^ 60 := by omega
    exact Nat.lt_of_le_of_lt this (by decide +kernel)
theorem len_one1 : (":" : Str).length = 1 := by decide
theorem len_one2 : ("-" : Str).length = 1 := by decide
theorem len_one3 : (" " : Str).length = 1 := by decide
theorem len_two : ("; " : Str).length = 2 := by decide
def wTT : WF := fun os q _ => ∃ t : Tie, os = [.fr (eT t)] ∧ TBd t ∧ q (.fr (.str (tieS t))) [.fr (eT t)]
theorem b_tie_text : Body bd_tie_text [] wTT 1 3 := by
  rintro os q x _ ⟨t, rfl, ht, h⟩
  have l1 := numS_len ht.1 (k := 31) (by decide) (by have := ht.2.1; omega)
  have l2 := numS_len ht.2.2.1 (k := 1) (by decide) (by have := ht.2.2.2.1; omega)
  have l3 := numS_len ht.2.2.2.2.1 (k := 1) (by decide) (by have := ht.2.2.2.2.2; omega)
  have b2 := ht.2.1
  have b4 := ht.2.2.2.1
  have b6 := ht.2.2.2.2.2
  simp only [numS] at l1 l2 l3
  simp [bd_tie_text, eT, -Int.toString_eq_repr]
  refine ⟨log_ok ht.1 (by omega), ?_, log_ok ht.2.2.1 (by omega), ?_, ?_, log_ok ht.2.2.2.2.1 (by omega), ?_, h⟩
  all_goals
    rw [sizeLine_eq]
    simp only [len_app, len_one1, len_one2]
    omega
def wRT : WF := fun os q _ => ∃ r : List Tie, os = [.fr (eR r)] ∧ (∀ t ∈ r, TBd t) ∧ r.length ≤ 60 ∧ q (.fr (.str (recS r))) [.fr (eR r)]
theorem b_record_text : Body (bd_record_text wTT) [] wRT 1 1 := by
  rintro os q x _ ⟨r, rfl, ht, hl, h⟩
  simp [bd_record_text]
  refine ⟨(sh_eR r).shaped, sh_list (k := 1) (fun d hd => by cases hd) |>.shaped, ?_⟩
  have e : PyData.eqv (eR r) (.list []) = decide (r = []) := eqv_eR r []
  rw [e]
  by_cases c : r = []
  · subst c
    simpa [recS] using h
  · simp [c]
    refine lcL_mapE r eT (fun t => .fr (.str (tieS t))) ?_ (by omega) ?_
    · intro t hm k hk
      simp
      exact ⟨t, rfl, ht t hm, hk⟩
    · simp [strs_of]
      constructor
      · have := sum_len (l := r.map tieS) (k := 35) (fun s hs => by
          obtain ⟨t, hm, rfl⟩ := List.mem_map.mp hs
          exact tieS_len (ht t hm))
        simp at this
        have l2 : (Str.ofString "; ").length = 2 := len_two
        rw [l2]
        simp only [Function.comp_def] at this ⊢
        omega
      · have e : recS r = Txt.join (Str.ofString "; ") (r.map tieS) := by simp [recS, c]
        rw [e] at h
        exact h
def netS (n k : Int) (r : List Tie) : Str := numS n ++ " " ++ numS k ++ " " ++ recS r
def eN (n k : Int) (r : List Tie) : D := .tuple [.int n, .int k, eR r]
/-- a record as an owned list -/
abbrev oR (r : List Tie) : List O := r.map fun t => O.fr (eT t)
@[simp] theorem flts_oR (l : List Tie) : flts (oR l) = true := flts_of l eT
@[simp] theorem ers_oR (l : List Tie) : ers (oR l) = l.map eT := ers_of l eT
def wMix : WF := fun os q _ => ∃ c k : Int, os = [.fr (.int c), .fr (.int k)] ∧ (0 ≤ k ∧ k ≤ 100000) ∧ ∀ j : Int, 0 ≤ j → j < 2147483647 → q (.fr (.int j)) [.fr (.int c), .fr (.int k)]
theorem log_le {n k : Nat} (h : n < 2 ^ k) : n.log2 ≤ k := by
  by_cases z : n = 0
  · rw [z]; exact Nat.zero_le _
  · exact Nat.le_of_lt ((Nat.log2_lt z).mpr h)
theorem cmw {i j : Int} (hi : i.natAbs < 2 ^ 1000) (hj : j.natAbs < 2 ^ 1000) : CMulW i j := by
  have h1 := log_le hi
  have h2 := log_le hj
  unfold CMulW
  omega
theorem big_lt {i : Int} (h0 : -(10 ^ 100) < i) (h : i < 10 ^ 100) : i.natAbs < 2 ^ 1000 := by
  have : i.natAbs < 10 ^ 100 := by omega
  exact Nat.lt_trans this (by decide +kernel)
theorem cmw' {i j : Int} (h0 : -(10 ^ 100) < i) (h : i < 10 ^ 100) (h0' : -(10 ^ 100) < j) (h' : j < 10 ^ 100) : CMulW i j := cmw (big_lt h0 h) (big_lt h0' h')
theorem b_mixed : Body bd__law_mixed [] wMix 2 1 := by
  rintro os q x _ ⟨c, k, rfl, hk, h⟩
  simp [bd__law_mixed]
  obtain ⟨u, hu⟩ : ∃ u, u = c % 2147483629 := ⟨_, rfl⟩
  have u1 : 0 ≤ u := by omega
  have u2 : u < 2147483629 := by omega
  rw [← hu]
  obtain ⟨v, hv⟩ : ∃ v, v = (u + 7919 * k + 11) * 48271 % 2147483647 := ⟨_, rfl⟩
  have v1 : 0 ≤ v := by omega
  have v2 : v < 2147483647 := by omega
  rw [← hv]
  obtain ⟨w, hw⟩ : ∃ w, w = (v * v + 104729 * k) % 2147483629 := ⟨_, rfl⟩
  have w1 : 0 ≤ w := by omega
  have w2 : w < 2147483629 := by omega
  rw [← hw]
  exact ⟨cmw' (by omega) (by omega) (by omega) (by omega), cmw' (by omega) (by omega) (by omega) (by omega), cmw' (by omega) (by omega) (by omega) (by omega), cmw' (by omega) (by omega) (by omega) (by omega), cmw' (by omega) (by omega) (by omega) (by omega), h _ (by omega) (by omega)⟩
def wNums : WF := fun os q _ => ∃ c m b : Int, os = [.fr (.int c), .fr (.int m), .fr (.int b)] ∧ (0 ≤ m ∧ m ≤ 1000) ∧ (1 ≤ b ∧ b ≤ 10 ^ 60) ∧ ∀ l : List Int, (l.length : Int) = m → (∀ i ∈ l, 0 ≤ i ∧ i < b) → q (.ol (oI l)) [.fr (.int c), .fr (.int m), .fr (.int b)]
theorem bits_le {b : Int} (h0 : 0 ≤ b) (h : b ≤ 10 ^ 60) : Builtin.Int.intBits b ≤ 200 := by
  have h1 : b.natAbs.log2 ≤ 200 → Builtin.Int.intBits b ≤ 201 := fun h => by
    unfold Builtin.Int.intBits
    split <;> omega
  by_cases z : b.natAbs = 0
  · have : b = 0 := by omega
    subst this
    decide
  · have h2 : b.natAbs.log2 < 200 := (Nat.log2_lt z).mpr (by
      have : b.natAbs ≤ 10 ^ 60 := by omega
      exact Nat.lt_of_le_of_lt this (by decide +kernel))
    unfold Builtin.Int.intBits
    split <;> omega
theorem pow_lt {t : Int} (h0 : 0 ≤ t) (h : t ≤ 8) : (2147483647 : Int) ^ t.toNat ≤ 10 ^ 90 := by
  have : t.toNat = 0 ∨ t.toNat = 1 ∨ t.toNat = 2 ∨ t.toNat = 3 ∨ t.toNat = 4 ∨ t.toNat = 5 ∨ t.toNat = 6 ∨ t.toNat = 7 ∨ t.toNat = 8 := by omega
  rcases this with e | e | e | e | e | e | e | e | e <;> rw [e] <;> decide +kernel
theorem b_numbers : Body (bd__law_numbers wMix) [] wNums 3 5 := by
  rintro os q x _ ⟨c, m, b, rfl, hm, hb, h⟩
  simp [bd__law_numbers]
  refine ⟨by unfold CPow; omega, by omega, by omega, ?_⟩
  rw [rngD_eq]
  refine loop_inv _ (fun l ρ => ∃ (found : List Int) (left : Int) (y5 y6 y7 : Option O), ρ = [some (.fr (.int c)), some (.fr (.int m)), some (.fr (.int b)), some (.ol (oI found)), some (.fr (.int left)), y5, y6, y7] ∧ found.length + l.length = m ∧ (∀ i ∈ found, 0 ≤ i ∧ i < b) ∧ ∀ j ∈ l, j < 1000) ?_ ?_ _ _ ?_
  · rintro j l ρ nx ⟨found, left, y5, y6, y7, rfl, hl, hf, hj⟩ hn
    have fin : ∀ (num left : Int) (y5 y7 : Option O), (oI found).length < sizeLine ∧ nx [some (.fr (.int c)), some (.fr (.int m)), some (.fr (.int b)), some (.ol (oI found ++ [.fr (.int (num % b))])), some (.fr (.int left)), y5, some (.fr (.int num)), y7] := fun num left y5 y7 => by
      refine ⟨by rw [sizeLine_eq, List.length_map]; simp at hl; omega, hn _ ⟨found ++ [num % b], left, y5, some (.fr (.int num)), y7, by simp, by simp at hl ⊢; omega, ?_, fun j h => hj j (List.mem_cons_of_mem _ h)⟩⟩
      intro i hi
      simp at hi
      rcases hi with hi | rfl
      · exact hf i hi
      · exact ⟨Int.emod_nonneg _ (by omega), Int.emod_lt_of_pos _ (by omega)⟩
    simp
    split
    · refine ⟨?_, by omega, ?_⟩
      · refine ⟨by omega, ?_⟩
        have := log_ok (i := b) (by omega) hb.2
        omega
      · simpa using fin left (left / b) (some (.fr (.int j))) y7
    · refine ⟨fun ρ => ∃ t num : Int, ρ = [some (.fr (.int c)), some (.fr (.int m)), some (.fr (.int b)), some (.ol (oI found)), some (.fr (.int left)), some (.fr (.int j)), some (.fr (.int num)), some (.fr (.int t))] ∧ (0 ≤ t ∧ t ≤ 8) ∧ 0 ≤ num ∧ num < 2147483647 ^ t.toNat, fun ρ => (1000 - (match ρ with | [_, _, _, _, _, _, _, some (.fr (.int t))] => t | _ => 0)).toNat, ⟨0, 0, rfl, by omega, by simp⟩, ?_⟩
      rintro ρ ⟨t, num, rfl, ht, hn1, hn2⟩
      have bl := bits_le (b := b) (by omega) hb.2
      have pl := pow_lt ht.1 ht.2
      have hj0 := hj j List.mem_cons_self
      simp
      refine ⟨cmw' (by omega) (by omega) (by omega) (by omega), ?_⟩
      split
      · rename_i hlt
        refine ⟨cmw' (by omega) (by omega) (by omega) (by omega), cmw' (by omega) (by omega) (by omega) (by omega), _, _, rfl, by omega, fun z hz1 hz2 => ?_⟩
        simp
        refine ⟨⟨_, _, ⟨rfl, rfl⟩, by omega, by omega, ?_⟩, by omega⟩
        have e : (t + 1).toNat = t.toNat + 1 := by omega
        rw [e, Int.pow_succ]
        omega
      · refine ⟨by omega, ?_⟩
        simpa using fin num left (some (.fr (.int j))) (some (.fr (.int t)))
  · rintro ρ ⟨found, left, y5, y6, y7, rfl, hl, hf, hj⟩
    simp at hl
    simpa using h found hl hf
  · exact ⟨[], _, none, none, none, rfl, by simp; omega, by simp, by simp; omega⟩
end K57
set_option Elab.async false
set_option linter.all false
set_option maxRecDepth 100000
set_option maxHeartbeats 2000000
namespace K57
open PySem PySem.Spec PyProof.Rows L2 DL TL
abbrev i30 (i : Int) : Prop := 0 ≤ i ∧ i < 10 ^ 30
def wEnds : WF := fun os q _ => ∃ n k u v : Int, os = [.fr (.int n), .fr (.int k), .fr (.int u), .fr (.int v)] ∧ (1 ≤ n ∧ n ≤ 10) ∧ i30 u ∧ i30 v ∧ ∀ a b : Int, (0 ≤ a ∧ a < n) → (0 ≤ b ∧ b < n) → q (.fr (.tuple [.int a, .int b])) [.fr (.int n), .fr (.int k), .fr (.int u), .fr (.int v)]
theorem modb (a : Int) {n m : Int} (h : 1 ≤ m) (h' : m ≤ n) : 0 ≤ a % m ∧ a % m < n := by
  have h1 := Int.emod_nonneg a (b := m) (by omega)
  have h2 := Int.emod_lt_of_pos a (b := m) (by omega)
  omega
theorem b_ends : Body bd__law_ends [] wEnds 4 1 := by
  rintro os q x _ ⟨n, k, u, v, rfl, hn, hu, hv, h⟩
  simp [bd__law_ends]
  refine ⟨by omega, ?_⟩
  have m1 := modb u (n := n) (m := n) (by omega) (by omega)
  have m2 := modb v (n := n) (m := n) (by omega) (by omega)
  have m3 := modb u (n := n) (m := min n 3) (by omega) (by omega)
  have m4 := modb v (n := n) (m := min n 2) (by omega) (by omega)
  have two : 2 ≤ sizeLine := by rw [sizeLine_eq]; omega
  split
  · exact ⟨by omega, two, h _ _ m1 m2⟩
  · split
    · exact ⟨by omega, by omega, two, h _ _ m3 m4⟩
    · split
      · refine ⟨⟨by omega, by decide⟩, by omega, two, h _ _ m1 (modb _ (by omega) (by omega))⟩
      · refine ⟨by omega, cmw' (by omega) (by omega) (by omega) (by omega), by omega, two, h _ _ m1 (modb _ (by omega) (by omega))⟩
def wDep : WF := fun os q _ => ∃ i : Int, os = [.fr (.int i)] ∧ 0 ≤ i ∧ ∀ k : Int, (1 ≤ k ∧ k ≤ 6) → q (.fr (.int k)) [.fr (.int i)]
theorem b_depth : Body bd__law_depth [] wDep 1 0 := by
  rintro os q x _ ⟨i, rfl, hi, h⟩
  simp [bd__law_depth]
  refine ⟨⟨by omega, by decide⟩, by rw [sizeLine_eq]; omega, ?_⟩
  by_cases c : i % 8 = 1
  · simp [c]
    exact h _ (by omega)
  · simp [c]
    exact h _ (by omega)
def wJn : WF := fun os q _ => ∃ (n a b : Int) (ts : List Tie), os = [.fr (.int n), .fr (eR ts), .fr (.int a), .fr (.int b)] ∧ (1 ≤ n ∧ n ≤ 10) ∧ Pls n ts ∧ (0 ≤ a ∧ a < n) ∧ (0 ≤ b ∧ b < n) ∧ ∀ r : Bool, (r = true ↔ Conn ts a b) → q (.fr (.bool r)) [.fr (.int n), .fr (eR ts), .fr (.int a), .fr (.int b)]
theorem conn_mem {ts us : List Tie} (h : ∀ t, t ∈ ts ↔ t ∈ us) (a b : Int) : Conn ts a b ↔ Conn us a b :=
  ⟨fun c => c.mono fun t ht => (h t).mp ht, fun c => c.mono fun t ht => (h t).mpr ht⟩
theorem b_jn : Body bd__law_joined [] wJn 4 7 := by
  rintro os q x _ ⟨n, a, b, ts, rfl, hn, hp, ha, hb, h⟩
  simp [bd__law_joined, eR]
  refine ⟨by unfold RgOk; omega, ?_⟩
  refine loop_inv eT (fun l ρ => ∃ (m : List Int) (done : List Tie) (y5 y6 y7 y8 y9 y10 : Option O), ρ = [some (.fr (.int n)), some (.fr (eR ts)), some (.fr (.int a)), some (.fr (.int b)), some (.fr (eI m)), y5, y6, y7, y8, y9, y10] ∧ Lab n.toNat m done ∧ ts = done.reverse ++ l) ?_ ?_ _ _ ?_
  · rintro ⟨t0, t1, t2⟩ l ρ nx ⟨m, done, y5, y6, y7, y8, y9, y10, rfl, L, e⟩ hx
    have hp' : (0 ≤ t1 ∧ t1 < n) ∧ (0 ≤ t2 ∧ t2 < n) := hp (t0, t1, t2) (by rw [e]; simp)
    have ml := L.len
    have g1 : atI m t1 = some (gt m t1) := atI_gt (by omega)
    have g2 : atI m t2 = some (gt m t2) := atI_gt (by omega)
    simp [eT, eI, g1, g2, dLc]
    refine lcL_mapE m PyData.int (fun z => .fr (.int (if z = gt m t1 then gt m t2 else z))) ?_ (by omega) ?_
    · intro z hz k hk
      by_cases c : z = gt m t1
      · simp [c] at hk ⊢
        exact hk
      · simp [c] at hk ⊢
        exact hk
    · have fs := flts_of m fun z => PyData.int (if z = gt m t1 then gt m t2 else z)
      have es := ers_of m fun z => PyData.int (if z = gt m t1 then gt m t2 else z)
      simp [fs, es]
      refine hx _ ⟨m.map fun z => if z = gt m t1 then gt m t2 else z, (t0, t1, t2) :: done, some (.fr (.int t0)), some (.fr (.int t1)), some (.fr (.int t2)), some (.fr (.int (gt m t1))), some (.fr (.int (gt m t2))), none, ?_, ?_, by simpa using e⟩
      · simp [eR, eI, Function.comp_def]
      · exact lab_join (t := (t0, t1, t2)) L ⟨hp'.1.1, by simp; omega⟩ ⟨hp'.2.1, by simp; omega⟩ (.inl ⟨rfl, rfl⟩)
  · rintro ρ ⟨m, done, y5, y6, y7, y8, y9, y10, rfl, L, e⟩
    have ml := L.len
    have g1 : atI m a = some (gt m a) := atI_gt (by omega)
    have g2 : atI m b = some (gt m b) := atI_gt (by omega)
    simp [eI, g1, g2]
    refine h _ ?_
    have h1 := L.iff a b ha.1 (by omega) hb.1 (by omega)
    simp
    rw [h1]
    exact conn_mem (fun t => by rw [e]; simp) a b
  · refine ⟨_, [], none, none, none, none, none, none, ?_, lab_range n.toNat, by simp⟩
    simp [rngD, eI, eR]
def wLT : WF := wRT
theorem b_lt : Body bd__law_text [] wLT 1 1 := by
  rintro os q x _ ⟨r, rfl, ht, hl, h⟩
  simp [bd__law_text, -Int.toString_eq_repr]
  refine ⟨(sh_eR r).shaped, sh_list (k := 1) (fun d hd => by cases hd) |>.shaped, ?_⟩
  have e : PyData.eqv (eR r) (.list []) = decide (r = []) := eqv_eR r []
  rw [e]
  by_cases c : r = []
  · subst c
    simpa [recS] using h
  · simp [c]
    refine lcL_mapE r eT (fun t => .fr (.str (tieS t))) ?_ (by omega) ?_
    · intro t hm k hk
      have htt := ht t hm
      have l1 := numS_len htt.1 (k := 31) (by decide) (by have := htt.2.1; omega)
      have l2 := numS_len htt.2.2.1 (k := 1) (by decide) (by have := htt.2.2.2.1; omega)
      have l3 := numS_len htt.2.2.2.2.1 (k := 1) (by decide) (by have := htt.2.2.2.2.2; omega)
      have b2 := htt.2.1
      have b4 := htt.2.2.2.1
      have b6 := htt.2.2.2.2.2
      simp only [numS] at l1 l2 l3
      simp [eT, -Int.toString_eq_repr]
      refine ⟨log_ok htt.1 (by omega), ?_, log_ok htt.2.2.1 (by omega), ?_, ?_, log_ok htt.2.2.2.2.1 (by omega), ?_, by simpa [tieS, numS, -Int.toString_eq_repr] using hk⟩
      all_goals
        rw [sizeLine_eq]
        simp only [len_app, len_one1, len_one2]
        omega
    · simp [strs_of]
      constructor
      · have := sum_len (l := r.map tieS) (k := 35) (fun s hs => by
          obtain ⟨t, hm, rfl⟩ := List.mem_map.mp hs
          exact tieS_len (ht t hm))
        simp at this
        have l2 : (Str.ofString "; ").length = 2 := len_two
        rw [l2]
        simp only [Function.comp_def] at this ⊢
        omega
      · have e : recS r = Txt.join (Str.ofString "; ") (r.map tieS) := by simp [recS, c]
        rw [e] at h
        exact h
def wNd : WF := wLay
theorem range_filterMap {α β : Type} (g : α → Option β) : ∀ d : List α, ((List.range d.length).filterMap fun i => (d[i]?).bind g) = d.filterMap g
  | [] => rfl
  | a :: d => by
    rw [List.length_cons, List.range_succ_eq_map, List.filterMap_cons, List.filterMap_map]
    have := range_filterMap g d
    simp only [Function.comp_def, List.getElem?_cons_succ, List.getElem?_cons_zero, Option.bind_some]
    rw [this, List.filterMap_cons]
theorem rngC_down (s : Int) (n : Nat) : rngC ((n : Int) - 1 + s) (-1) n = (List.range n).reverse.map fun (i : Nat) => PyData.int ((i : Int) + s) := by
  unfold rngC
  refine List.ext_getElem (by simp) fun i h1 h2 => ?_
  simp at h1 h2 ⊢
  omega
theorem range_rev (c : Nat) : (List.range (c + 1)).reverse = c :: (List.range c).reverse := by
  rw [List.range_succ, List.reverse_append]
  rfl
theorem lcL_rngF {g : GT} {tt : BT} {te : ET} {vs : List Nat} {x : XP} {ρ : DL.Env} {q : O → DL.Env → Prop} {lo : Int} {n : Nat} (f : Nat → Option O)
    (hs : ∀ j, j < n → ∀ k : Option O → DL.Env → Prop, k (f j) ρ → stepLc g tt te vs x (.int (lo + j)) ρ k) (hl : n ≤ 16000000) (h : q (.ol ((List.range n).filterMap f)) ρ) : dLcL g tt te vs x (rngD lo n) [] ρ q :=
  lcL_filterE (List.range n) _ f (fun j hj => hs j (List.mem_range.mp hj)) (by simpa using hl) h
theorem ties_lc {n k cur j : Int} {a : Nat} {r : List Tie} {d : List (Tie × Int)} {y6 y7 : Option O} {q : O → DL.Env → Prop} {x : XP} (hd1 : d.map (·.1) = r.drop (a + 1)) (al : a < r.length) (hl : r.length ≤ 60)
    (h : q (.fr (eR (inL j d))) [some (.fr (.int n)), some (.fr (eR r)), some (.fr (.int k)), some (.ol (oI (List.replicate a 0 ++ cur :: d.map (·.2)))), some (.fr (.int a)), some (.fr (.int j)), y6, none]) :
    dFrz (dLc (dRng2 (dCons (dOp fAdd (dVar 4) (dC (.int 1))) (dCons (dCB fLen (dCons (dVar 1) dNil)) dNil))) (dName 7) (dBorT (dTest (dOp (fEqB false) (dOp fIx (dVar 3) (dVar 7)) (dVar 5)))) (dOp fIx (dVar 1) (dVar 7)) [7])
      [some (.fr (.int n)), some (.fr (eR r)), some (.fr (.int k)), some (.ol (oI (List.replicate a 0 ++ cur :: d.map (·.2)))), some (.fr (.int a)), some (.fr (.int j)), y6, y7] q x := by
  have dl : d.length = r.length - (a + 1) := by
    have := congrArg List.length hd1
    simpa using this
  have tot : ((r.length : Int) - ((a : Int) + 1)).toNat = d.length := by omega
  obtain ⟨nums, hn⟩ : ∃ nums, nums = List.replicate a 0 ++ cur :: d.map (·.2) := ⟨_, rfl⟩
  rw [← hn] at h ⊢
  simp [dLc, eR]
  refine ⟨by omega, ?_⟩
  rw [tot]
  refine lcL_rngF (fun i => (d[i]?).bind fun z => if z.2 = j then some (.fr (eT z.1)) else none) ?_ (by omega) ?_
  · intro i hi kk hk
    obtain ⟨z, hz⟩ : ∃ z, d[i]? = some z := ⟨_, List.getElem?_eq_getElem hi⟩
    have i1 : a + 1 + i < r.length := by omega
    have g1 : atI r ((a : Int) + 1 + i) = some z.1 := by
      rw [show (a : Int) + 1 + i = ((a + 1 + i : Nat) : Int) by omega, atI_nat' i1]
      have : (r.drop (a + 1))[i]? = some z.1 := by rw [← hd1, List.getElem?_map, hz]; rfl
      rwa [List.getElem?_drop] at this
    have g2 : atI nums ((a : Int) + 1 + i) = some z.2 := by
      have i2 : a + 1 + i < nums.length := by rw [hn]; simp; omega
      rw [show (a : Int) + 1 + i = ((a + 1 + i : Nat) : Int) by omega, atI_nat' i2, hn, List.getElem?_append_right (by simp; omega)]
      rw [List.length_replicate, show a + 1 + i - a = i + 1 by omega, List.getElem?_cons_succ, List.getElem?_map, hz]
      rfl
    rw [hz] at hk
    simp at hk
    simp [g1, g2]
    by_cases c : z.2 = j
    · simp [c] at hk ⊢
      exact hk
    · simp [c] at hk ⊢
      exact hk
  · rw [range_filterMap]
    have e : d.filterMap (fun z => if z.2 = j then some (O.fr (eT z.1)) else none) = oR (inL j d) := by
      unfold inL oR
      rw [List.map_map]
      clear hn dl tot hd1 h
      induction d with
      | nil => rfl
      | cons z d ih =>
        by_cases c : z.2 = j
        · simp [c, ih]
        · simp [c, ih]
    rw [e]
    simpa [eR] using h
theorem b_numbered : Body (bd__law_numbered wJn) [] wNd 3 5 := by
  rintro os q x _ ⟨n, k, r, rfl, hn, hk, hl, hp, h⟩
  simp [bd__law_numbered, eR]
  refine ⟨by rw [sizeLine_eq]; omega, by rfl, by omega, by rw [sizeLine_eq]; omega, r.length, ?_, ?_⟩
  · have := RgC.neg (i := (r.length : Int) - 1) (j := -1) (by omega) (by omega) (by omega) (by omega)
    rwa [show ((r.length : Int) - 1 - -1).toNat = r.length by omega] at this
  have e0 := rngC_down 0 r.length
  rw [show (r.length : Int) - 1 + 0 = (r.length : Int) - 1 by omega] at e0
  rw [e0]
  refine loop_inv _ (fun l ρ => ∃ (c : Nat) (y4 y5 y6 y7 : Option O), l = (List.range c).reverse ∧ c ≤ r.length ∧ ρ = [some (.fr (.int n)), some (.fr (eR r)), some (.fr (.int k)), some (.ol (oI (List.replicate c 0 ++ layN k.toNat (r.drop c)))), y4, y5, y6, y7]) ?_ ?_ _ _ ⟨r.length, none, none, none, none, rfl, Nat.le_refl _, ?_⟩
  · rintro a l ρ nx ⟨c, y4, y5, y6, y7, hc, hcr, rfl⟩ hx
    cases c with
    | zero => cases hc
    | succ c =>
      rw [range_rev] at hc
      injection hc with h1 h2
      subst h1 h2
      simp [eR]
      refine ⟨k.toNat, ?_, ?_⟩
      · have := RgC.neg (i := k) (j := 0) (by omega) (by omega) (by omega) (by omega)
        rwa [show (k - 0).toNat = k.toNat by omega] at this
      have e1 := rngC_down 1 k.toNat
      rw [show (k.toNat : Int) - 1 + 1 = k by omega] at e1
      rw [e1]
      obtain ⟨t, ht⟩ : ∃ t, r[a]? = some t := ⟨_, List.getElem?_eq_getElem (by omega)⟩
      have al : a < r.length := by omega
      have dr : r.drop a = t :: r.drop (a + 1) := by
        rw [List.drop_eq_getElem_cons al]
        congr 1
        rw [List.getElem?_eq_getElem al] at ht
        injection ht
      have hp' : (0 ≤ t.2.1 ∧ t.2.1 < n) ∧ (0 ≤ t.2.2 ∧ t.2.2 < n) := hp t (List.mem_of_getElem? ht)
      obtain ⟨d, hd⟩ : ∃ d, d = lays k.toNat (r.drop (a + 1)) := ⟨_, rfl⟩
      have hd2 : layN k.toNat (r.drop (a + 1)) = d.map (·.2) := by rw [hd]; rfl
      have hd1 : d.map (·.1) = r.drop (a + 1) := by rw [hd]; exact lays_fst _ _
      have dl : d.length = r.length - (a + 1) := by
        have := congrArg List.length hd1
        simpa using this
      have hdr : layN k.toNat (r.drop a) = fstL d t.2.1 t.2.2 k.toNat 1 :: d.map (·.2) := by
        rw [dr, ← hd2, hd]
        rfl
      rw [hd2]
      refine loop_inv _ (fun l ρ => ∃ (c : Nat) (y5 y6 y7 : Option O), l = (List.range c).reverse ∧ c ≤ k.toNat ∧ ρ = [some (.fr (.int n)), some (.fr (eR r)), some (.fr (.int k)), some (.ol (oI (List.replicate a 0 ++ fstL d t.2.1 t.2.2 (k.toNat - c) (c + 1) :: d.map (·.2)))), some (.fr (.int a)), y5, y6, y7]) ?_ ?_ _ _ ⟨k.toNat, y5, y6, y7, rfl, Nat.le_refl _, ?_⟩
      · rintro j l ρ nx' ⟨c, y5, y6, y7, hc, hck, rfl⟩ hx'
        cases c with
        | zero => cases hc
        | succ c =>
          rw [range_rev] at hc
          injection hc with h1 h2
          subst h1 h2
          obtain ⟨cur, hcur⟩ : ∃ cur, cur = fstL d t.2.1 t.2.2 (k.toNat - (j + 1)) ((j + 1 : Nat) + 1) := ⟨_, rfl⟩
          rw [← hcur]
          simp only [dName, dSeq, dAsg, List.set_cons_succ, List.set_cons_zero, List.getElem?_cons_succ, List.getElem?_cons_zero]
          refine ties_lc (n := n) (k := k) (j := j + 1) (y6 := y6) hd1 al hl ?_
          have g : atI r (a : Int) = some t := by rw [atI_nat' al, ht]
          have g' : ixN (a + (d.length + 1)) (a : Int) = some a := ixN_nat (by omega)
          have pin : Pls n (inL ((j : Int) + 1) d) := fun s hs => hp s (by
            unfold inL at hs
            obtain ⟨z, hz, rfl⟩ := List.mem_map.mp hs
            have h1 := List.mem_map_of_mem (f := (·.1)) (List.mem_filter.mp hz).1
            rw [hd1] at h1
            exact List.mem_of_mem_drop h1)
          have st : k.toNat - j = (k.toNat - (j + 1)) + 1 := by omega
          simp [eR, g, eT]
          refine ⟨n, t.2.1, t.2.2, inL ((j : Int) + 1) d, rfl, hn, pin, hp'.1, hp'.2, fun b hb => ?_⟩
          cases b with
          | true =>
            simp
            refine hx' _ ⟨j, some (.fr (.int (j + 1))), some (.fr (eR (inL ((j : Int) + 1) d))), none, rfl, by omega, ?_⟩
            rw [st, fstL, if_pos (hb.mp rfl)]
            simp [eR, hcur]
          | false =>
            simp [g']
            refine hx' _ ⟨j, some (.fr (.int (j + 1))), some (.fr (eR (inL ((j : Int) + 1) d))), none, rfl, by omega, ?_⟩
            rw [st, fstL, if_neg (fun c => by simpa using hb.mpr c)]
            simp [eR]
      · rintro ρ ⟨c, y5, y6, y7, hc, hcr, rfl⟩
        have : c = 0 := by cases c with
          | zero => rfl
          | succ c => rw [range_rev] at hc; cases hc
        subst this
        refine hx _ ⟨a, some (.fr (.int a)), y5, y6, y7, rfl, by omega, ?_⟩
        rw [hdr]
        simp
      · simp [fstL, eR, List.replicate_succ']
  · rintro ρ ⟨c, y4, y5, y6, y7, hc, hcr, rfl⟩
    have : c = 0 := by cases c with
      | zero => rfl
      | succ c => rw [range_rev] at hc; cases hc
    subst this
    simpa [eR] using h
  · simp [layN, lays, eR]
/-- a tie between places of n, its ends in order -/
def TOrd (n : Int) (t : Tie) : Prop := 0 ≤ t.1 ∧ t.1 ≤ 10 ^ 30 ∧ 0 ≤ t.2.1 ∧ t.2.1 ≤ t.2.2 ∧ t.2.2 < n
def Ris (r : List Tie) : Prop := r.Pairwise fun s t => s.1 < t.1
structure ROk (n : Int) (r : List Tie) : Prop where
  hl : r.length ≤ 60
  tie : ∀ t ∈ r, TOrd n t
  ris : Ris r
theorem isTie_of {n : Int} {t : Tie} (h : TOrd n t) : isTie n (eT t) = true := by
  obtain ⟨h1, h2, h3, h4, h5⟩ := h
  simp [isTie, eT, isMom, isPl]
  omega
theorem risD_of {r : List Tie} (h : Ris r) : risD (r.map eT) = true := by
  unfold risD
  rw [List.all_eq_true]
  intro k hk
  rw [List.mem_range, List.length_map] at hk
  have l1 : k < r.length := by omega
  have l2 : k + 1 < r.length := by omega
  have := List.pairwise_iff_getElem.mp h k (k + 1) l1 l2 (by omega)
  simp [List.getD_eq_getElem?_getD, List.getElem?_eq_getElem l1, List.getElem?_eq_getElem l2, momD, eT]
  exact this
theorem isRec_of {n : Int} {r : List Tie} (h : ROk n r) : isRec n (eR r) = true := by
  have h1 := risD_of h.ris
  have h2 : (r.map eT).all (isTie n) = true := by
    rw [List.all_eq_true]
    intro d hd
    obtain ⟨t, ht, rfl⟩ := List.mem_map.mp hd
    exact isTie_of (h.tie t ht)
  simp only [isRec, eR, h1, h2, List.length_map, h.hl, decide_true, Bool.and_true]
def wRec : WF := fun os q _ => ∃ (l : List Int) (most : Int), os = [.fr (eI l), .fr (.int most)] ∧ (4 ≤ l.length ∧ l.length ≤ 1000) ∧ (∀ i ∈ l, i30 i) ∧ (0 ≤ most ∧ most ≤ 60) ∧ ∀ (n : Int) (r : List Tie), (1 ≤ n ∧ n ≤ 10) → ROk n r → (r.length : Int) ≤ most → (∀ t ∈ r, t.1 < 10 ^ 30) → q (.fr (.tuple [.int n, eR r])) [.fr (eI l), .fr (.int most)]
theorem b_rec : Body (bd__law_record wEnds) [] wRec 2 8 := by
  rintro os q x _ ⟨l, most, rfl, hl, hi, hm, h⟩
  have at_ : ∀ i : Int, 0 ≤ i → i < (l.length : Nat) → ∃ v, atI l i = some v ∧ i30 v := fun i h0 h1 => by
    refine ⟨gt l i, atI_gt ⟨h0, h1⟩, hi _ ?_⟩
    exact List.mem_of_getElem? (gt_some h0 h1)
  obtain ⟨v0, g0, b0⟩ := at_ 0 (by omega) (by omega)
  obtain ⟨v1, g1, b1⟩ := at_ 1 (by omega) (by omega)
  obtain ⟨v2, g2, b2⟩ := at_ 2 (by omega) (by omega)
  obtain ⟨v3, g3, b3⟩ := at_ 3 (by omega) (by omega)
  refine ⟨rfl, ?_⟩
  show bd__law_record wEnds _ [some (.fr (eI l)), some (.fr (.int most)), none, none, none, none, none, none, none, none]
  unfold bd__law_record
  refine seq_cut (fun ρ => ∃ n : Int, (1 ≤ n ∧ n ≤ 10) ∧ ρ = [some (.fr (eI l)), some (.fr (.int most)), some (.fr (.int n)), none, none, none, none, none, none, none]) ?_ ?_
  · intro nx hx
    simp [eI, g0]
    exact hx _ ⟨_, by omega, rfl⟩
  rintro ρ ⟨n, hn, rfl⟩
  refine seq_cut (fun ρ => ∃ n : Int, (1 ≤ n ∧ n ≤ 10) ∧ ρ = [some (.fr (eI l)), some (.fr (.int most)), some (.fr (.int n)), none, none, none, none, none, none, none]) ?_ ?_
  · intro nx hx
    simp [eI, g0]
    refine ⟨⟨by omega, by decide⟩, ?_⟩
    split
    · exact ⟨⟨by omega, by decide⟩, hx _ ⟨_, by omega, rfl⟩⟩
    · exact hx _ ⟨n, hn, rfl⟩
  clear hn n
  rintro ρ ⟨n, hn, rfl⟩
  refine seq_cut (fun ρ => ∃ many : Int, (0 ≤ many ∧ many ≤ 60) ∧ ρ = [some (.fr (eI l)), some (.fr (.int most)), some (.fr (.int n)), some (.fr (.int many)), none, none, none, none, none, none]) ?_ ?_
  · intro nx hx
    simp [eI, g1]
    exact hx _ ⟨_, by omega, rfl⟩
  rintro ρ ⟨many, hmany, rfl⟩
  refine seq_cut (fun ρ => ∃ many : Int, (0 ≤ many ∧ many ≤ 60) ∧ ρ = [some (.fr (eI l)), some (.fr (.int most)), some (.fr (.int n)), some (.fr (.int many)), none, none, none, none, none, none]) ?_ ?_
  · intro nx hx
    simp [eI, g1]
    refine ⟨⟨by omega, by decide⟩, ?_⟩
    split
    · exact ⟨⟨by omega, by decide⟩, hx _ ⟨_, by omega, rfl⟩⟩
    · exact hx _ ⟨_, hmany, rfl⟩
  clear hmany many
  rintro ρ ⟨many, hmany, rfl⟩
  refine seq_cut (fun ρ => ∃ wide : Int, (1 ≤ wide ∧ wide ≤ 10 ^ 28) ∧ ρ = [some (.fr (eI l)), some (.fr (.int most)), some (.fr (.int n)), some (.fr (.int many)), some (.fr (.int wide)), none, none, none, none, none]) ?_ ?_
  · intro nx hx
    simp [eI, g2]
    refine ⟨by unfold CPow; omega, by rw [sizeLine_eq]; omega, ?_⟩
    have c3 : v2 % 3 = 0 ∨ v2 % 3 = 1 ∨ v2 % 3 = 2 := by omega
    rcases c3 with e | e | e <;> rw [e] <;> simp <;> exact hx _ ⟨_, by omega, rfl⟩
  rintro ρ ⟨wide, hwide, rfl⟩
  refine seq_cut (fun ρ => ∃ mo : Int, (0 ≤ mo ∧ mo < 10 ^ 29) ∧ ρ = [some (.fr (eI l)), some (.fr (.int most)), some (.fr (.int n)), some (.fr (.int many)), some (.fr (.int wide)), some (.fr (.int mo)), none, none, none, none]) ?_ ?_
  · intro nx hx
    simp [eI, g2, g3]
    refine ⟨⟨by omega, by decide⟩, by unfold CPow; omega, by rw [sizeLine_eq]; omega, ⟨by omega, by decide⟩, ?_⟩
    have c3 : v2 / 3 % 3 = 0 ∨ v2 / 3 % 3 = 1 ∨ v2 / 3 % 3 = 2 := by omega
    rcases c3 with e | e | e <;> rw [e] <;> simp <;> exact hx _ ⟨_, by omega, rfl⟩
  rintro ρ ⟨mo, hmo, rfl⟩
  simp [eI]
  obtain ⟨cnt, hcnt⟩ : ∃ cnt, cnt = (min many (min most (((l.length : Int) - 4) / 3))).toNat := ⟨_, rfl⟩
  refine ⟨⟨by omega, by decide⟩, by omega, by omega, ?_⟩
  rw [← hcnt, rngD_eq]
  refine loop_inv _ (fun js ρ => ∃ (r : List Tie) (mo : Int) (y7 y8 y9 : Option O), ρ = [some (.fr (eI l)), some (.fr (.int most)), some (.fr (.int n)), some (.fr (.int many)), some (.fr (.int wide)), some (.fr (.int mo)), some (.ol (oR r)), y7, y8, y9] ∧ (∀ j ∈ js, j < cnt) ∧ r.length + js.length = cnt ∧ Ris r ∧ (∀ t ∈ r, TOrd n t ∧ t.1 < mo) ∧ 0 ≤ mo ∧ mo < 10 ^ 29 + r.length * 10 ^ 28) ?_ ?_ _ _ ⟨[], mo, none, none, none, rfl, by simp, by simp, .nil, by simp, by omega, by simp; omega⟩
  · rintro j js ρ nx ⟨r, mo, y7, y8, y9, rfl, hj, hr, ris, ht, hm0, hm1⟩ hx
    have hj0 := hj j List.mem_cons_self
    have hr' := hr
    simp at hr'
    obtain ⟨u, gu, bu⟩ := at_ (4 + 3 * j) (by omega) (by omega)
    obtain ⟨v, gv, bv⟩ := at_ (5 + 3 * j) (by omega) (by omega)
    obtain ⟨w, gw, bw⟩ := at_ (6 + 3 * j) (by omega) (by omega)
    simp [eI, g3, gu, gv]
    refine ⟨cmw' (by omega) (by omega) (by omega) (by omega), n, v3 % 4, u, v, rfl, hn, bu, bv, fun a b ha hb => ?_⟩
    simp [gw]
    refine ⟨by rw [sizeLine_eq]; omega, by rw [sizeLine_eq]; omega, cmw' (by omega) (by omega) (by omega) (by omega), by omega, ?_⟩
    have m1 := Int.emod_nonneg w (b := wide) (by omega)
    have m2 := Int.emod_lt_of_pos w (b := wide) (by omega)
    refine hx _ ⟨r ++ [(mo, min a b, max a b)], mo + 1 + w % wide, some (.fr (.int j)), some (.fr (.int a)), some (.fr (.int b)), ?_, fun j' h' => hj j' (List.mem_cons_of_mem _ h'), by simp at hr ⊢; omega, ?_, ?_, by omega, ?_⟩
    · simp [eI, eT]
    · unfold Ris
      rw [List.pairwise_append]
      refine ⟨ris, List.pairwise_singleton _ _, fun s hs t hm => ?_⟩
      simp at hm
      subst hm
      exact (ht s hs).2
    · intro t hm
      simp at hm
      rcases hm with hm | rfl
      · have := ht t hm
        exact ⟨this.1, by omega⟩
      · unfold TOrd
        simp
        omega
    · simp
      omega
  · rintro ρ ⟨r, mo, y7, y8, y9, rfl, hj, hr, ris, ht, hm0, hm1⟩
    simp at hr
    simp
    have := h n r hn ⟨by omega, fun t hm => (ht t hm).1, ris⟩ (by omega) (fun t hm => by have := (ht t hm).2; omega)
    refine ⟨by rw [sizeLine_eq]; omega, ?_⟩
    simpa [eI, eR] using this
/-! ### the net of a record -/
theorem inL_pos (d : List (Tie × Int)) {j : Int} (hj : 0 < j) : inL j (d.filter fun z => decide (0 < z.2)) = inL j d := by
  unfold inL
  rw [List.filter_filter]
  congr 1
  refine List.filter_congr fun z _ => ?_
  by_cases c : z.2 = j
  · simp [c, hj]
  · simp [c]
theorem fstL_pos (d : List (Tie × Int)) (a b : Int) : ∀ (c : Nat) (j : Int), 0 < j → fstL (d.filter fun z => decide (0 < z.2)) a b c j = fstL d a b c j
  | 0, _, _ => rfl
  | c + 1, j, hj => by
    unfold fstL
    rw [inL_pos d hj, fstL_pos d a b c (j + 1) (by omega)]
/-- what a net keeps of a record -/
noncomputable def kept (k : Nat) (r : List Tie) : List Tie := ((lays k r).filter fun z => decide (0 < z.2)).map (·.1)
theorem lays_kept (k : Nat) : ∀ r : List Tie, lays k (kept k r) = (lays k r).filter fun z => decide (0 < z.2)
  | [] => rfl
  | t :: r => by
    have ih := lays_kept k r
    by_cases c : 0 < fstL (lays k r) t.2.1 t.2.2 k 1
    · have e : kept k (t :: r) = t :: kept k r := by simp [kept, lays, c]
      rw [e]
      simp only [lays]
      rw [ih, fstL_pos _ _ _ _ _ (by decide)]
      simp [c]
    · have e : kept k (t :: r) = kept k r := by simp [kept, lays, c]
      rw [e, ih]
      simp [lays, c]
theorem kept_no0 (k : Nat) (r : List Tie) : 0 ∉ layN k (kept k r) := by
  unfold layN
  rw [lays_kept]
  intro h
  obtain ⟨z, hz, e⟩ := List.mem_map.mp h
  have := (List.mem_filter.mp hz).2
  simp at this
  omega
theorem kept_sub (k : Nat) (r : List Tie) : (kept k r).Sublist r := by
  have h : (kept k r).Sublist ((lays k r).map (·.1)) := (List.filter_sublist).map _
  rwa [lays_fst] at h
theorem ROk.sub {n : Int} {r s : List Tie} (h : ROk n r) (hs : s.Sublist r) : ROk n s :=
  ⟨Nat.le_trans hs.length_le h.hl, fun t ht => h.tie t (hs.subset ht), List.Pairwise.sublist hs h.ris⟩
theorem kept_net {n k : Int} {r : List Tie} (hn : 1 ≤ n ∧ n ≤ 10) (hk : 1 ≤ k ∧ k ≤ 6) (h : ROk n r) : isNet (eN n k (kept k.toNat r)) = true := by
  have h1 := isRec_of (h.sub (kept_sub k.toNat r))
  have h2 := kept_no0 k.toNat r
  have h3 : isCnt (.int n) 10 = true := by simp [isCnt, hn]
  have h4 : isCnt (.int k) 6 = true := by simp [isCnt, hk]
  simp only [isNet, eN, h1, h3, h4, unR_eR, Bool.true_and]
  simpa using h2
theorem ROk.bd {n : Int} {r : List Tie} (h : ROk n r) (hn : 1 ≤ n ∧ n ≤ 10) : ∀ t ∈ r, TBd t := fun t ht => by
  have := h.tie t ht
  unfold TOrd at this
  unfold TBd
  omega
theorem ROk.pls {n : Int} {r : List Tie} (h : ROk n r) : Pls n r := fun t ht => by
  have := h.tie t ht
  unfold TOrd at this
  omega
theorem sh_eN (n k : Int) (r : List Tie) : Sh 3 (eN n k r) := sh_tup fun d hd => by
  simp at hd
  rcases hd with rfl | rfl | rfl
  · exact sh_int
  · exact sh_int
  · exact sh_eR r
theorem eqv_eN (n k : Int) (r : List Tie) : PyData.eqv (eN n k r) (eN n k r) = true := by
  show (n == n && (k == k && (PyData.eqv (eR r) (eR r) && true))) = true
  rw [eqv_eR]
  simp
theorem cut3 {α : Type} (l : List α) (f : α → O) : cutO (l.map f) (some 3) none = (l.drop 3).map f := by
  unfold cutO
  rw [HT.sIx_none, show HT.sIx (l.map f).length 0 (some 3) = min 3 (l.map f).length from HT.sIx_nat _ _ 3]
  rw [← List.map_drop, ← List.map_take, List.length_map]
  congr 1
  rw [Nat.min_def]
  split
  · rw [List.take_of_length_le (by simp)]
  · rw [List.drop_of_length_le (Nat.le_refl _), List.drop_of_length_le (by omega)]
    simp
theorem flts_oI' (l : List Int) : flts (l.map (O.fr ∘ PyData.int)) = true := flts_oI l
theorem ers_oI' (l : List Int) : ers (l.map (O.fr ∘ PyData.int)) = l.map .int := ers_oI l
theorem flts_oR' (l : List Tie) : flts (l.map (O.fr ∘ eT)) = true := flts_oR l
theorem ers_oR' (l : List Tie) : ers (l.map (O.fr ∘ eT)) = l.map eT := ers_oR l
theorem oR_app (r : List Tie) (t : Tie) : oR (r ++ [t]) = oR r ++ [.fr (eT t)] := by simp [oR]
theorem seq_go {a b : DT} {E : EE} {ρ : DL.Env} (h : a { E with nx := b E } ρ) : dSeq a b E ρ := h
end K57
set_option Elab.async false
set_option linter.all false
set_option maxRecDepth 100000
set_option maxHeartbeats 2000000
namespace K57
open PySem PySem.Spec PyProof.Rows L2 DL TL
/-- the signs of a number's text -/
def NumOk (cs : List Nat) : Prop := 1 ≤ cs.length ∧ cs.length ≤ 60 ∧ (∀ c ∈ cs, 48 ≤ c ∧ c ≤ 57) ∧ (cs.head? = some 48 → cs = [48])
open Classical in
noncomputable def numRd (z : Str) : Option Int := if NumOk (tl z) then some ((NumText.digitsVal (tl z) : Nat) : Int) else none
theorem numRd_some {z : Str} (h : NumOk (tl z)) : numRd z = some ((NumText.digitsVal (tl z) : Nat) : Int) := if_pos h
theorem numRd_none {z : Str} (h : ¬ NumOk (tl z)) : numRd z = none := if_neg h
theorem fig_mem {c : Nat} : c ∈ (Str.ofString "0123456789").cps ↔ 48 ≤ c ∧ c ≤ 57 := by
  have e : (Str.ofString "0123456789").cps.toList = [48, 49, 50, 51, 52, 53, 54, 55, 56, 57] := by decide +kernel
  rw [Array.mem_def, e]
  simp
  omega
theorem str_zero {z : Str} : z = Str.ofString "0" ↔ tl z = [48] := by
  have e : tl (Str.ofString "0") = [48] := by decide
  exact ⟨fun h => by rw [h, e], fun h => str_ext (h.trans e.symm)⟩
def wNI (C : Addr) : WF := fun os q x => ∃ z : Str, os = [.fr (.str z)] ∧ z.length ≤ 1000000 ∧ (match numRd z with | some i => q (.fr (.int i)) [.fr (.str z)] | none => x (.ref C, none) [.fr (.str z)])
theorem b_number_in {C : Addr} : Body (bd_number_in C) [] (wNI C) 1 1 := by
  rintro os q x _ ⟨z, rfl, hz, h⟩
  have hl : z.length = (tl z).length := str_len z
  have hs : z.length ≤ sizeLine := by rw [sizeLine_eq]; omega
  have lo : ∀ E : EE, (∀ y, (∀ c ∈ tl z, 48 ≤ c ∧ c ≤ 57) → E.nx [some (.fr (.str z)), y]) → (∀ y, (∃ c ∈ tl z, ¬ (48 ≤ c ∧ c ≤ 57)) → E.xc (.ref C, none) [some (.fr (.str z)), y]) → dLoop (dName 1)
      (dIfS (dTest (dOp (fInB true) (dVar 1) (dC (PyData.str (Str.ofString "0123456789"))))) (dRaise C) dNext) (signsD z) E [some (O.fr (PyData.str z)), none] := fun E h1 h2 => by
    refine loop_inv (fun c => PyData.str ⟨#[c]⟩) (fun l ρ => ∃ y pre, ρ = [some (.fr (.str z)), y] ∧ tl z = pre ++ l ∧ ∀ c ∈ pre, 48 ≤ c ∧ c ≤ 57) ?_ ?_ _ _ ⟨none, [], rfl, rfl, by simp⟩
    · rintro c l ρ nx ⟨y, pre, rfl, e, hp⟩ hn
      by_cases hc : 48 ≤ c ∧ c ≤ 57
      · have m := fig_mem.mpr hc
        simp [m]
        exact hn _ ⟨_, pre ++ [c], rfl, by rw [e]; simp, fun d hd => by
          rcases List.mem_append.mp hd with hd | hd
          · exact hp d hd
          · rw [List.mem_singleton.mp hd]; exact hc⟩
      · have m : ¬ c ∈ (Str.ofString "0123456789").cps := fun z => hc (fig_mem.mp z)
        simp [m]
        exact h2 _ ⟨c, by rw [e]; simp, hc⟩
    · rintro ρ ⟨y, pre, rfl, e, hp⟩
      exact h1 y fun c hc => hp c (by rw [e] at hc; simpa using hc)
  by_cases hr : 1 ≤ z.length ∧ z.length ≤ 60
  · obtain ⟨c, l, ec⟩ : ∃ c l, tl z = c :: l := by
      cases e : tl z with
      | nil => rw [e] at hl; simp at hl; omega
      | cons a l => exact ⟨a, l, rfl⟩
    have ec' : z.cps.toList = c :: l := ec
    have r1 : (1 : Int) ≤ (z.length : Int) := by omega
    have r2 : (z.length : Int) ≤ 60 := by omega
    have e0 : ({ cps := #[c] } : Str) = Str.ofString "0" ↔ c = 48 := by
      rw [str_zero]
      show ([c] = [48]) ↔ _
      simp
    simp [bd_number_in, ec', hs, r1, r2, e0]
    have main : (c = 48 → tl z = [48]) → dLoop (dName 1)
      (dIfS (dTest (dOp (fInB true) (dVar 1) (dC (PyData.str (Str.ofString "0123456789"))))) (dRaise C) dNext) (signsD z) { nx := (dRet (dCB fInt1 (dCons (dVar 0) dNil)) { nx := fun ρ => q (O.fr PyData.none) [O.fr (PyData.str z)], rt := fun o ρ => q o [O.fr (PyData.str z)], xc := fun xd ρ => x xd [O.fr (PyData.str z)] }), rt := fun o ρ => q o [O.fr (PyData.str z)], xc := fun xd ρ => x xd [O.fr (PyData.str z)] } [some (O.fr (PyData.str z)), none] := fun h0 => by
      refine lo _ (fun y hd => ?_) (fun y ⟨d, hd, hn⟩ => ?_)
      · have ok : NumOk (tl z) := ⟨by omega, by omega, hd, fun hh => by
          rw [ec] at hh
          simp at hh
          exact h0 hh⟩
        rw [numRd_some ok] at h
        simp
        exact ⟨_, intText_digits hd (by rw [ec']; simp) (by omega), by omega, h⟩
      · have no : ¬ NumOk (tl z) := fun ok => hn (ok.2.2.1 d hd)
        rw [numRd_none no] at h
        exact h
    split
    · rename_i c0
      split
      · rename_i z0
        exact main fun _ => str_zero.mp z0
      · rename_i z0
        have no : ¬ NumOk (tl z) := fun ok => z0 (str_zero.mpr (ok.2.2.2 (by rw [ec, c0]; rfl)))
        rw [numRd_none no] at h
        exact h
    · rename_i c0
      exact main fun z => absurd z c0
  · have no : ¬ NumOk (tl z) := fun ok => hr ⟨by have := ok.1; omega, by have := ok.2.1; omega⟩
    rw [numRd_none no] at h
    by_cases r1 : (1 : Int) ≤ (z.length : Int)
    · have r2 : ¬ (z.length : Int) ≤ 60 := by omega
      simp [bd_number_in, hs, r1, r2]
      exact h
    · simp [bd_number_in, hs, r1]
      exact h
/-! ### a number's text and its number -/
theorem val_snoc (cs : List Nat) (c : Nat) : NumText.digitsVal (cs ++ [c]) = NumText.digitsVal cs * 10 + (c - 48) := by
  unfold NumText.digitsVal
  rw [List.foldl_append]
  rfl
theorem numL_snoc {m d : Nat} (hm : 0 < m) (hd : d < 10) : numL (10 * m + d) = numL m ++ [48 + d] := by
  have t : Nat.toDigits 10 m ++ Nat.toDigits 10 d = Nat.toDigits 10 (10 * m + d) := Nat.toDigits_append_toDigits (by decide) hm hd
  have e : numL (10 * m + d) = numL m ++ numL d := by
    unfold numL
    rw [← t, List.map_append]
  rw [e, numL_lt hd]
theorem val_pos : ∀ {cs : List Nat}, (∀ c ∈ cs, 48 ≤ c ∧ c ≤ 57) → (∃ c l, cs = c :: l ∧ c ≠ 48) → 0 < NumText.digitsVal cs := by
  intro cs hd hh
  have : ∀ (n : Nat) (cs : List Nat), cs.length = n → (∀ c ∈ cs, 48 ≤ c ∧ c ≤ 57) → (∃ c l, cs = c :: l ∧ c ≠ 48) → 0 < NumText.digitsVal cs := by
    intro n
    induction n with
    | zero =>
      rintro cs e _ ⟨c, l, rfl, _⟩
      cases e
    | succ n ih =>
      rintro cs e hd ⟨c, l, rfl, hc⟩
      rcases List.eq_nil_or_concat l with rfl | ⟨l', d, rfl⟩
      · have := hd c List.mem_cons_self
        show 0 < 0 * 10 + (c - 48)
        omega
      · have e2 : c :: l'.concat d = (c :: l') ++ [d] := by simp
        rw [e2, val_snoc]
        have := ih (c :: l') (by simp at e ⊢; omega) (fun x hx => hd x (by rw [e2]; exact List.mem_append_left _ hx)) ⟨c, l', rfl, hc⟩
        omega
  exact this _ cs rfl hd hh
theorem val_lt : ∀ (n : Nat) (cs : List Nat), cs.length = n → (∀ c ∈ cs, 48 ≤ c ∧ c ≤ 57) → NumText.digitsVal cs < 10 ^ n := by
  intro n
  induction n with
  | zero =>
    intro cs e _
    rw [List.length_eq_zero_iff.mp e]
    decide
  | succ n ih =>
    intro cs e hd
    rcases List.eq_nil_or_concat cs with rfl | ⟨l, d, rfl⟩
    · cases e
    · rw [List.concat_eq_append] at hd e ⊢
      have dd := hd d (by simp)
      have := ih l (by simpa using e) fun x hx => hd x (List.mem_append_left _ hx)
      rw [val_snoc, Nat.pow_succ]
      omega
/-- a text of figures without a nought ahead is how its number is written -/
theorem num_back : ∀ (n : Nat) (cs : List Nat), cs.length = n → (∀ c ∈ cs, 48 ≤ c ∧ c ≤ 57) → cs ≠ [] → (cs.head? = some 48 → cs = [48]) → numL (NumText.digitsVal cs) = cs := by
  intro n
  induction n with
  | zero =>
    intro cs e _ hn
    exact absurd (List.length_eq_zero_iff.mp e) hn
  | succ n ih =>
    intro cs e hd hn hh
    rcases List.eq_nil_or_concat cs with rfl | ⟨l, d, rfl⟩
    · exact absurd rfl hn
    · rw [List.concat_eq_append] at hd hh e ⊢
      have dd := hd d (by simp)
      rw [val_snoc]
      cases l with
      | nil =>
        show numL (0 * 10 + (d - 48)) = [d]
        rw [show 0 * 10 + (d - 48) = d - 48 by omega, numL_lt (by omega)]
        congr 1
        omega
      | cons c l =>
        have hc : c ≠ 48 := fun z => by
          have := hh (by rw [z]; rfl)
          simp at this
        have dl : ∀ x ∈ c :: l, 48 ≤ x ∧ x ≤ 57 := fun x hx => hd x (List.mem_append_left _ hx)
        have pos := val_pos dl ⟨c, l, rfl, hc⟩
        have e1 : NumText.digitsVal (c :: l) * 10 + (d - 48) = 10 * NumText.digitsVal (c :: l) + (d - 48) := by omega
        rw [e1, numL_snoc pos (by omega), ih (c :: l) (by simp at e ⊢; omega) dl (by simp) (fun h => absurd (by simpa using h) hc)]
        congr 1
        congr 1
        omega
theorem num_same {z : Str} (h1 : 1 ≤ (tl z).length) (h2 : (tl z).length ≤ 60) (hd : ∀ c ∈ tl z, 48 ≤ c ∧ c ≤ 57) : numS ((NumText.digitsVal (tl z) : Nat) : Int) = z ↔ NumOk (tl z) := by
  have hn : tl z ≠ [] := fun e => by rw [e] at h1; simp at h1
  have e0 : tl (numS ((NumText.digitsVal (tl z) : Nat) : Int)) = numL (NumText.digitsVal (tl z)) := tl_num _
  constructor
  · intro h
    refine ⟨h1, h2, hd, fun hh => ?_⟩
    rw [h] at e0
    cases e : tl z with
    | nil => exact absurd e hn
    | cons c l =>
      rw [e] at hh
      have hc : c = 48 := by simpa using hh
      rw [e] at e0
      have m0 := numL_head _ c l e0.symm hc
      rw [m0, numL_lt (by decide)] at e0
      exact e0
  · intro h
    exact str_ext (by rw [e0]; exact num_back _ _ rfl hd hn h.2.2.2)
theorem part_le (x y : Str) : (Txt.partition x y).1.length ≤ x.length ∧ (Txt.partition x y).2.1.length ≤ x.length ∧ (Txt.partition x y).2.2.length ≤ x.length := PyProof.Rows.fact_partition x y
theorem part_none (x y : Str) (hy : y ≠ Str.empty) (h : (Txt.partition x y).2.1 = Str.empty) : (Txt.partition x y).2.2 = Str.empty := by
  unfold Txt.partition at h ⊢
  split at h
  · exact absurd h hy
  · rfl
theorem part_empty (y : Str) : (Txt.partition Str.empty y).2.2 = Str.empty := by
  have h := (part_le Str.empty y).2.2
  have h0 : (Txt.partition Str.empty y).2.2.length = 0 := Nat.le_zero.mp h
  rw [str_len] at h0
  exact str_ext (List.length_eq_zero_iff.mp h0)
theorem rd_empty : numRd Str.empty = none := numRd_none fun ok => by
  have := ok.1
  exact absurd this (by decide)
/-- the tie of a text -/
noncomputable def tieRd (z : Str) : Option Tie := match numRd (Txt.partition z ":").1, numRd (Txt.partition (Txt.partition z ":").2.2 "-").1, numRd (Txt.partition (Txt.partition z ":").2.2 "-").2.2 with
  | some i, some j, some k => some (i, j, k)
  | _, _, _ => none
theorem rd_nn {z : Str} {i : Int} (h : numRd z = some i) : 0 ≤ i := by
  unfold numRd at h
  split at h
  · cases h
    omega
  · cases h
def wTI (C : Addr) : WF := fun os q x => ∃ z : Str, os = [.fr (.str z)] ∧ z.length ≤ 1000000 ∧ (match tieRd z with | some t => q (.fr (eT t)) [.fr (.str z)] | none => x (.ref C, none) [.fr (.str z)])
theorem colon1 : ¬ (Str.ofString ":").length = 0 := by decide
theorem dash1 : ¬ (Str.ofString "-").length = 0 := by decide
theorem wNI_i {C : Addr} {z : Str} {q x} (hz : z.length ≤ 1000000) (h : match numRd z with | some i => q (.fr (.int i)) [.fr (.str z)] | none => x (.ref C, none) [.fr (.str z)]) : wNI C [.fr (.str z)] q x := ⟨z, rfl, hz, h⟩
theorem b_tie_in {C : Addr} : Body (bd_tie_in (wNI C)) [] (wTI C) 1 6 := by
  rintro os q x _ ⟨z, rfl, hz, h⟩
  have p1 := part_le z (Str.ofString ":")
  have p2 := part_le (Txt.partition z (Str.ofString ":")).2.2 (Str.ofString "-")
  have hs : z.length ≤ sizeLine := by rw [sizeLine_eq]; omega
  have hs2 : (Txt.partition z (Str.ofString ":")).2.2.length ≤ sizeLine := by rw [sizeLine_eq]; omega
  simp [bd_tie_in, strsD, colon1, dash1, hs, hs2]
  unfold tieRd at h
  refine wNI_i (by omega) ?_
  have h : match (match numRd (Txt.partition z (Str.ofString ":")).1, numRd (Txt.partition (Txt.partition z (Str.ofString ":")).2.2 (Str.ofString "-")).1, numRd (Txt.partition (Txt.partition z (Str.ofString ":")).2.2 (Str.ofString "-")).2.2 with
    | some i, some j, some k => some ((i, j, k) : Tie)
    | _, _, _ => none) with | some t => q (.fr (eT t)) [.fr (.str z)] | none => x (.ref C, none) [.fr (.str z)] := h
  cases e1 : numRd (Txt.partition z (Str.ofString ":")).1 with
  | none =>
    rw [e1] at h
    exact h
  | some i =>
    simp
    refine wNI_i (by omega) ?_
    cases e2 : numRd (Txt.partition (Txt.partition z (Str.ofString ":")).2.2 (Str.ofString "-")).1 with
    | none =>
      rw [e1, e2] at h
      exact h
    | some j =>
      simp
      refine wNI_i (by omega) ?_
      cases e3 : numRd (Txt.partition (Txt.partition z (Str.ofString ":")).2.2 (Str.ofString "-")).2.2 with
      | none =>
        rw [e1, e2, e3] at h
        exact h
      | some k =>
        rw [e1, e2, e3] at h
        simp
        exact ⟨by rw [sizeLine_eq]; omega, h⟩
theorem split_part {z y p : Str} (h : p ∈ Txt.split z y) : p.length ≤ z.length := by
  unfold Txt.split at h
  split at h
  · rw [List.mem_singleton.mp h]
    exact Nat.le_refl _
  · split at h
    · rw [List.mem_singleton.mp h]
      exact Nat.le_refl _
    · unfold Builtin.Str.partsBetween at h
      obtain ⟨⟨i, j⟩, _, rfl⟩ := List.mem_map.mp h
      exact le_strSub z i j
theorem split_many (z y : Str) : (Txt.split z y).length ≤ z.length + 2 := by
  have := PyProof.Rows.split_le z y
  omega
/-- a comprehension that ends at the first item that is none -/
theorem lcL_try {α : Type} {g : GT} {tt : BT} {te : ET} {vs : List Nat} {x : XP} {ρ : DL.Env} {q : O → DL.Env → Prop} {X : Prop} (l : List α) (e : α → D) (f : α → Option O)
    (hs : ∀ a ∈ l, ∀ k : Option O → DL.Env → Prop, (∀ o, f a = some o → k (some o) ρ) → (f a = none → X) → stepLc g tt te vs x (e a) ρ k) (hl : l.length ≤ 16000000)
    (h : (∀ a ∈ l, f a ≠ none) → q (.ol (l.filterMap f)) ρ) (hX : (∃ a ∈ l, f a = none) → X) : dLcL g tt te vs x (l.map e) [] ρ q := by
  suffices ∀ (l2 : List α) (acc : List O), (∀ a ∈ l2, ∀ k : Option O → DL.Env → Prop, (∀ o, f a = some o → k (some o) ρ) → (f a = none → X) → stepLc g tt te vs x (e a) ρ k) → acc.length + l2.length ≤ 16000000 → ((∀ a ∈ l2, f a ≠ none) → q (.ol (acc ++ l2.filterMap f)) ρ) → ((∃ a ∈ l2, f a = none) → X) → dLcL g tt te vs x (l2.map e) acc ρ q from
    this l [] hs (by simpa using hl) (by simpa using h) hX
  intro l2
  induction l2 with
  | nil => intro acc _ _ h _; simpa [dLcL] using h (by simp)
  | cons a l2 ih =>
    intro acc hs hl h hX
    rw [List.map_cons, lcL_step]
    rw [List.length_cons] at hl
    refine hs a List.mem_cons_self _ (fun o eo => ?_) (fun en => hX ⟨a, List.mem_cons_self, en⟩)
    have z : acc.length < sizeLine := by rw [sizeLine_eq]; omega
    refine ⟨z, ih (acc ++ [o]) (fun d hd => hs d (List.mem_cons_of_mem _ hd)) (by simp; omega) (fun hall => ?_) (fun ⟨b, hb, en⟩ => hX ⟨b, List.mem_cons_of_mem _ hb, en⟩)⟩
    have := h fun b hb => by
      rcases List.mem_cons.mp hb with rfl | hb
      · rw [eo]; exact fun z => nomatch z
      · exact hall b hb
    simpa [eo] using this
open Classical in
/-- the record of a text -/
noncomputable def recRd (n : Int) (z : Str) : Option (List Tie) :=
  if z = Str.ofString "none" then some [] else
  if (∀ p ∈ Txt.split z (Str.ofString "; "), tieRd p ≠ none) ∧ isRec n (eR ((Txt.split z (Str.ofString "; ")).filterMap tieRd)) = true then some ((Txt.split z (Str.ofString "; ")).filterMap tieRd) else none
theorem semi2 : ¬ (Str.ofString "; ").length = 0 := by decide
def wRR (C : Addr) : WF := fun os q x => ∃ (n : Int) (z : Str), os = [.fr (.int n), .fr (.str z)] ∧ z.length ≤ 100000 ∧ (match recRd n z with | some r => q (.ol (oR r)) [.fr (.int n), .fr (.str z)] | none => x (.ref C, none) [.fr (.int n), .fr (.str z)])
theorem fm_oR (l : List Str) (f : Str → Option Tie) : l.filterMap (fun p => (f p).map fun t => O.fr (eT t)) = oR (l.filterMap f) := by
  induction l with
  | nil => rfl
  | cons a l ih =>
    cases e : f a <;> simp [e, ih]
theorem b_read_record {C : Addr} : Body (bd_read_record C (wTI C) (wB2 isRec)) [] (wRR C) 2 2 := by
  rintro os q x _ ⟨n, z, rfl, hz, h⟩
  by_cases c : z = Str.ofString "none"
  · have e : recRd n z = some [] := by unfold recRd; rw [if_pos c]
    rw [e] at h
    simpa [bd_read_record, c] using h
  · have many := split_many z (Str.ofString "; ")
    have es := ers_of (Txt.split z (Str.ofString "; ")) fun z => PyData.str z
    have fs := flts_of (Txt.split z (Str.ofString "; ")) fun z => PyData.str z
    simp [bd_read_record, c, dLcR, semi2, strsD, es, fs]
    refine ⟨by rw [sizeLine_eq]; omega, lcL_try (X := x (.ref C, none) [.fr (.int n), .fr (.str z)]) (Txt.split z (Str.ofString "; ")) _ (fun p => (tieRd p).map fun t => O.fr (eT t)) ?_ (by omega) (fun hall => ?_) ?_⟩
    · intro p hp k hk hX
      have pl := split_part hp
      simp
      refine ⟨p, rfl, by omega, ?_⟩
      cases et : tieRd p with
      | some t =>
        rw [et] at hk
        simpa using hk _ rfl
      | none =>
        rw [et] at hX
        simpa using hX rfl
    · rw [fm_oR]
      have hall' : ∀ p ∈ Txt.split z (Str.ofString "; "), tieRd p ≠ none := fun p hp => by
        have := hall p hp
        intro e
        rw [e] at this
        exact this rfl
      cases hi : isRec n (eR ((Txt.split z (Str.ofString "; ")).filterMap tieRd)) with
      | true =>
        have e : recRd n z = some ((Txt.split z (Str.ofString "; ")).filterMap tieRd) := by
          unfold recRd
          rw [if_neg c, if_pos ⟨hall', hi⟩]
        rw [e] at h
        have hi' : isRec n (PyData.list (((Txt.split z (Str.ofString "; ")).filterMap tieRd).map eT)) = true := hi
        simp [hi']
        exact h
      | false =>
        have e : recRd n z = none := by
          unfold recRd
          rw [if_neg c, if_neg fun z => by rw [hi] at z; exact absurd z.2 (by decide)]
        rw [e] at h
        have hi' : isRec n (PyData.list (((Txt.split z (Str.ofString "; ")).filterMap tieRd).map eT)) = false := hi
        simp [hi']
        exact h
    · rintro ⟨p, hp, en⟩
      have e : recRd n z = none := by
        unfold recRd
        rw [if_neg c, if_neg fun hh => hh.1 p hp (by cases et : tieRd p <;> rw [et] at en <;> simp_all)]
      rw [e] at h
      exact h
theorem tieRd_nn {z : Str} {t : Tie} (h : tieRd z = some t) : 0 ≤ t.1 ∧ 0 ≤ t.2.1 ∧ 0 ≤ t.2.2 := by
  unfold tieRd at h
  split at h
  · rename_i i j k e1 e2 e3
    cases h
    exact ⟨rd_nn e1, rd_nn e2, rd_nn e3⟩
  · cases h
theorem isRec_tie {n : Int} {r : List Tie} (h : isRec n (eR r) = true) : ∀ t ∈ r, isTie n (eT t) = true := fun t ht => by
  simp only [isRec, eR, Bool.and_eq_true, List.all_eq_true] at h
  exact h.2.1 _ (List.mem_map_of_mem ht)
/-! ### what is written is read, what is spoilt so is not -/
theorem rd_num {i : Int} (h0 : 0 ≤ i) (h1 : i < 10 ^ 60) : numRd (numS i) = some i := by
  have l := numS_len h0 (k := 60) (by decide) h1
  have p := numS_pos h0
  have t := tl_numS h0
  rw [str_len] at l p
  have ok : NumOk (tl (numS i)) := ⟨p, l, fun c hc => by rw [t] at hc; exact numL_dig hc, fun hh => by
    cases e : tl (numS i) with
    | nil => rw [e] at p; simp at p
    | cons c r =>
      rw [e] at hh
      have hc : c = 48 := by simpa using hh
      rw [t] at e
      have m0 := numL_head _ c r e hc
      rw [m0, numL_lt (by decide)] at e
      exact e.symm⟩
  rw [numRd_some ok, t, numL_vl]
  congr 1
  omega
theorem rd_bad {z : Str} {c : Nat} (h : c ∈ tl z) (hc : ¬ (48 ≤ c ∧ c ≤ 57)) : numRd z = none := numRd_none fun ok => hc (ok.2.2.1 c h)
theorem rd_tie {t : Tie} (h : TBd t) : tieRd (tieS t) = some t := by
  have h1 := rd_num h.1 (by have := h.2.1; omega)
  have h2 := rd_num h.2.2.1 (by have := h.2.2.2.1; omega)
  have h3 := rd_num h.2.2.2.2.1 (by have := h.2.2.2.2.2; omega)
  unfold tieRd
  rw [tie_part1 h.ok]
  dsimp only
  rw [tie_part2 h.ok]
  dsimp only
  rw [h1, h2, h3]
theorem rd_rec {n : Int} {r : List Tie} (hn : 1 ≤ n ∧ n ≤ 10) (h : ROk n r) : recRd n (recS r) = some r := by
  have hb := h.bd hn
  unfold recRd
  by_cases c : r = []
  · subst c
    rw [if_pos (show recS [] = Str.ofString "none" from rfl)]
  · have e1 : ¬ recS r = Str.ofString "none" := rec_none c fun t ht => (hb t ht).ok
    have e2 : Txt.split (recS r) (Str.ofString "; ") = r.map tieS := rec_split c fun t ht => (hb t ht).ok
    have e3 : (r.map tieS).filterMap tieRd = r := by
      clear e1 e2 c h
      induction r with
      | nil => rfl
      | cons t r ih =>
        simp only [List.map_cons, List.filterMap_cons, rd_tie (hb t List.mem_cons_self)]
        rw [ih fun s hs => hb s (List.mem_cons_of_mem _ hs)]
    rw [if_neg e1, e2, e3]
    refine if_pos ⟨fun p hp => ?_, isRec_of h⟩
    obtain ⟨t, ht, rfl⟩ := List.mem_map.mp hp
    rw [rd_tie (hb t ht)]
    exact fun z => nomatch z
theorem tl_sp : tl (Str.ofString " ") = [32] := by decide
theorem rec_bad {n : Int} {z p : Str} (h1 : z ≠ Str.ofString "none") (h2 : p ∈ Txt.split z (Str.ofString "; ")) (h3 : tieRd p = none) : recRd n z = none := by
  unfold recRd
  rw [if_neg h1]
  exact if_neg fun hh => hh.1 p h2 h3
theorem tie_end {t : Tie} (h : TBd t) : tieRd (tieS t ++ Str.ofString " ") = none := by
  have e : tieS t ++ Str.ofString " " = numS t.1 ++ Str.ofString ":" ++ (numS t.2.1 ++ Str.ofString "-" ++ (numS t.2.2 ++ Str.ofString " ")) := by
    unfold tieS
    simp only [app_assoc]
  have p1 := partition_app (y := Str.ofString ":") (b := numS t.2.1 ++ Str.ofString "-" ++ (numS t.2.2 ++ Str.ofString " ")) tl_colon (numS_free h.1 (k := 58) (by omega))
  have p2 := partition_app (y := Str.ofString "-") (b := numS t.2.2 ++ Str.ofString " ") tl_dash (numS_free h.2.2.1 (k := 45) (by omega))
  have bad : numRd (numS t.2.2 ++ Str.ofString " ") = none := rd_bad (c := 32) (by rw [tl_append, tl_sp]; simp) (by omega)
  unfold tieRd
  rw [e]
  have p1 : Txt.partition (numS t.1 ++ Str.ofString ":" ++ (numS t.2.1 ++ Str.ofString "-" ++ (numS t.2.2 ++ Str.ofString " "))) ":" = _ := p1
  rw [p1]
  dsimp only
  have p2 : Txt.partition (numS t.2.1 ++ Str.ofString "-" ++ (numS t.2.2 ++ Str.ofString " ")) "-" = _ := p2
  rw [p2]
  dsimp only
  rw [bad]
  cases numRd (numS t.1) <;> cases numRd (numS t.2.1) <;> rfl
theorem tie_start {t : Tie} (h : TBd t) : tieRd (Str.ofString " " ++ tieS t) = none := by
  have e : Str.ofString " " ++ tieS t = (Str.ofString " " ++ numS t.1) ++ Str.ofString ":" ++ (numS t.2.1 ++ Str.ofString "-" ++ numS t.2.2) := by
    unfold tieS
    simp only [app_assoc]
  have p1 := partition_app (y := Str.ofString ":") (a := Str.ofString " " ++ numS t.1) (b := numS t.2.1 ++ Str.ofString "-" ++ numS t.2.2) tl_colon (by
    rw [tl_append, tl_sp]
    have := numS_free h.1 (k := 58) (by omega)
    simpa using this)
  have bad : numRd (Str.ofString " " ++ numS t.1) = none := rd_bad (c := 32) (by rw [tl_append, tl_sp]; simp) (by omega)
  unfold tieRd
  rw [e]
  have p1 : Txt.partition ((Str.ofString " " ++ numS t.1) ++ Str.ofString ":" ++ (numS t.2.1 ++ Str.ofString "-" ++ numS t.2.2)) ":" = _ := p1
  rw [p1]
  dsimp only
  rw [bad]
theorem joinL_last (S : List Nat) (a b : List Nat) : ∀ xs : List (List Nat), joinL S (xs ++ [a ++ b]) = joinL S (xs ++ [a]) ++ b
  | [] => rfl
  | [x] => by simp [joinL]
  | x :: y :: xs => by
    have := joinL_last S a b (y :: xs)
    simp only [List.cons_append, joinL] at this ⊢
    rw [this]
    simp
theorem joinL_first (S : List Nat) (a b : List Nat) : ∀ xs : List (List Nat), joinL S ((a ++ b) :: xs) = a ++ joinL S (b :: xs)
  | [] => rfl
  | x :: xs => by simp [joinL]
theorem sp_not_none {z : Str} (h : 32 ∈ tl z) : z ≠ Str.ofString "none" := fun e => by
  have : tl (Str.ofString "none") = [110, 111, 110, 101] := by decide
  rw [e, this] at h
  simp at h
theorem rec_end {n : Int} {r : List Tie} (hb : ∀ t ∈ r, TBd t) : recRd n (recS r ++ Str.ofString " ") = none := by
  rcases List.eq_nil_or_concat r with rfl | ⟨r, t, rfl⟩
  · have e : recS [] ++ Str.ofString " " = Str.ofString "none " := by decide
    rw [e]
    refine rec_bad (p := Str.ofString "none ") (sp_not_none (by decide)) (by decide +kernel) ?_
    have e1 : (Txt.partition (Str.ofString "none ") ":").1 = Str.ofString "none " := by decide +kernel
    have bad : numRd (Str.ofString "none ") = none := rd_bad (c := 110) (by decide) (by omega)
    unfold tieRd
    rw [e1, bad]
  · rw [List.concat_eq_append] at hb ⊢
    have ht := hb t (by simp)
    have e : recS (r ++ [t]) ++ Str.ofString " " = Txt.join (Str.ofString "; ") (r.map tieS ++ [tieS t ++ Str.ofString " "]) := by
      apply str_ext
      unfold recS
      rw [if_neg (by simp), tl_append, join_eq, join_eq, tl_join, tl_join]
      simp only [List.map_append, List.map_cons, List.map_nil, tl_append]
      rw [joinL_last]
    have sp : Txt.split (recS (r ++ [t]) ++ Str.ofString " ") (Str.ofString "; ") = r.map tieS ++ [tieS t ++ Str.ofString " "] := by
      rw [e]
      refine split_join tl_semi (by decide +kernel) (by simp) fun p hp => ?_
      rcases List.mem_append.mp hp with hp | hp
      · obtain ⟨s, hs, rfl⟩ := List.mem_map.mp hp
        exact tieS_free (hb s (by simp [hs])).ok (by omega)
      · rw [List.mem_singleton.mp hp, tl_append, tl_sp]
        have := tieS_free ht.ok (k := 59) (by omega)
        simpa using this
    exact rec_bad (p := tieS t ++ Str.ofString " ") (sp_not_none (by rw [tl_append, tl_sp]; simp)) (by rw [sp]; simp) (tie_end ht)
theorem rec_start {n : Int} {r : List Tie} (hb : ∀ t ∈ r, TBd t) : recRd n (Str.ofString " " ++ recS r) = none := by
  cases r with
  | nil =>
    have e : Str.ofString " " ++ recS [] = Str.ofString " none" := by decide
    rw [e]
    refine rec_bad (p := Str.ofString " none") (sp_not_none (by decide)) (by decide +kernel) ?_
    have e1 : (Txt.partition (Str.ofString " none") ":").1 = Str.ofString " none" := by decide +kernel
    have bad : numRd (Str.ofString " none") = none := rd_bad (c := 110) (by decide) (by omega)
    unfold tieRd
    rw [e1, bad]
  | cons t r =>
    have ht := hb t List.mem_cons_self
    have e : Str.ofString " " ++ recS (t :: r) = Txt.join (Str.ofString "; ") ((Str.ofString " " ++ tieS t) :: r.map tieS) := by
      apply str_ext
      unfold recS
      rw [if_neg (by simp), tl_append, join_eq, join_eq, tl_join, tl_join]
      simp only [List.map_cons, tl_append]
      rw [joinL_first]
    have sp : Txt.split (Str.ofString " " ++ recS (t :: r)) (Str.ofString "; ") = (Str.ofString " " ++ tieS t) :: r.map tieS := by
      rw [e]
      refine split_join tl_semi (by decide +kernel) (by simp) fun p hp => ?_
      rcases List.mem_cons.mp hp with rfl | hp
      · rw [tl_append, tl_sp]
        have := tieS_free ht.ok (k := 59) (by omega)
        simpa using this
      · obtain ⟨s, hs, rfl⟩ := List.mem_map.mp hp
        exact tieS_free (hb s (List.mem_cons_of_mem _ hs)).ok (by omega)
    exact rec_bad (p := Str.ofString " " ++ tieS t) (sp_not_none (by rw [tl_append, tl_sp]; simp)) (by rw [sp]; simp) (tie_start ht)
end K57
set_option Elab.async false
set_option linter.all false
set_option maxRecDepth 100000
set_option maxHeartbeats 2000000
namespace K57
open PySem PySem.Spec PyProof.Rows L2 DL TL
theorem blank1 : ¬ (Str.ofString " ").length = 0 := by decide
/-- the net of a text -/
noncomputable def netRd (z : Str) : Option (Int × Int × List Tie) := match numRd (Txt.partition z (Str.ofString " ")).1, numRd (Txt.partition (Txt.partition z (Str.ofString " ")).2.2 (Str.ofString " ")).1 with
  | some n, some k => if isMany (.int n) = true then (match recRd n (Txt.partition (Txt.partition z (Str.ofString " ")).2.2 (Str.ofString " ")).2.2 with
    | some r => if isNet (eN n k r) = true then some (n, k, r) else none
    | none => none) else none
  | _, _ => none
def wRN (C : Addr) : WF := fun os q x => ∃ z : Str, os = [.fr (.str z)] ∧ z.length ≤ 100000 ∧ (match netRd z with | some t => q (.ot [.fr (.int t.1), .fr (.int t.2.1), .ol (oR t.2.2)]) [.fr (.str z)] | none => x (.ref C, none) [.fr (.str z)])
theorem wRR_i {C : Addr} {n : Int} {z : Str} {q x} (hz : z.length ≤ 100000) (h : match recRd n z with | some r => q (.ol (oR r)) [.fr (.int n), .fr (.str z)] | none => x (.ref C, none) [.fr (.int n), .fr (.str z)]) : wRR C [.fr (.int n), .fr (.str z)] q x := ⟨n, z, rfl, hz, h⟩
theorem b_read_net {C : Addr} : Body (bd_read_net C (wNI C) (wB1 isMany) (wRR C) wNet) [] (wRN C) 1 9 := by
  rintro os q x _ ⟨z, rfl, hz, h⟩
  have p1 := part_le z (Str.ofString " ")
  have p2 := part_le (Txt.partition z (Str.ofString " ")).2.2 (Str.ofString " ")
  have hs : z.length ≤ sizeLine := by rw [sizeLine_eq]; omega
  have hs2 : (Txt.partition z (Str.ofString " ")).2.2.length ≤ sizeLine := by rw [sizeLine_eq]; omega
  simp [bd_read_net, strsD, blank1, hs, hs2]
  unfold netRd at h
  refine wNI_i (by omega) ?_
  cases e1 : numRd (Txt.partition z (Str.ofString " ")).1 with
  | none =>
    rw [e1] at h
    exact h
  | some n =>
    simp
    refine wNI_i (by omega) ?_
    cases e2 : numRd (Txt.partition (Txt.partition z (Str.ofString " ")).2.2 (Str.ofString " ")).1 with
    | none =>
      rw [e1, e2] at h
      exact h
    | some k =>
      rw [e1, e2] at h
      dsimp only at h
      cases hm : isMany (.int n) with
      | false =>
        rw [hm] at h
        simp [hm]
        simpa using h
      | true =>
        rw [hm, if_pos rfl] at h
        simp [hm]
        refine wRR_i (by omega) ?_
        cases e3 : recRd n (Txt.partition (Txt.partition z (Str.ofString " ")).2.2 (Str.ofString " ")).2.2 with
        | none =>
          rw [e3] at h
          exact h
        | some r =>
          rw [e3] at h
          dsimp only at h
          have two3 : 3 ≤ sizeLine := by rw [sizeLine_eq]; omega
          have en : PyData.tuple [.int n, .int k, .list (r.map eT)] = eN n k r := rfl
          cases hi : isNet (eN n k r) with
          | true =>
            rw [hi, if_pos rfl] at h
            simp [two3, en, hi]
            exact h
          | false =>
            rw [hi, if_neg (by decide)] at h
            simp [two3, en, hi]
            exact h
/-- what the classes say -/
structure Cl (K : PySem.W.Frag) (cPE cNT cCl cNL cNN cNP cNTi : Addr) : Prop where
  em : PySem.W.exmOne K (.ref cNT) (.ref cPE) = some true
  ec : ExcC K cNT
  i1 : PySem.W.kitOne K (.ref cNT) (.ref cNT) = some true
  i3 : PySem.W.kitAny K (.ref cNT) ([cCl, cNL, cNN, cNP, cNTi].map Value.ref) = some false
def wLR : WF := fun os q _ => ∃ z : Str, os = [.fr (.str z)] ∧ z.length ≤ 100000 ∧ (match netRd z with | some t => q (.ot [.fr (.int t.1), .fr (.int t.2.1), .ol (oR t.2.2)]) [.fr (.str z)] | none => q (.fr .none) [.fr (.str z)])
theorem b_lr {K : PySem.W.Frag} {cPE cNT cCl cNL cNN cNP cNTi : Addr} (T : Cl K cPE cNT cCl cNL cNN cNP cNTi) : Body (bd__law_read K cPE cNT cCl cNL cNN cNP cNTi (wRN cNT)) [] wLR 1 3 := by
  rintro os q x _ ⟨z, rfl, hz, h⟩
  simp [bd__law_read]
  refine ⟨z, rfl, hz, ?_⟩
  cases e : netRd z with
  | some r =>
    rw [e] at h
    simp
    exact h
  | none =>
    rw [e] at h
    have i3 := T.i3
    simp at i3
    simp [T.em, T.ec, T.i1, i3]
    exact h
/-- what is no net -/
def wNT (C : Addr) : WF := fun os q x => ∃ d : D, os = [.fr d] ∧ isNet d = false ∧ x (.ref C, none) [.fr d]
theorem b_net_text {C : Addr} : Body (bd_net_text C wNet wRT) [] (wNT C) 1 3 := by
  rintro os q x _ ⟨d, rfl, hd, h⟩
  simp [bd_net_text, hd]
  exact h
structure Cl2 (K : PySem.W.Frag) (cPE cNN cCl cNL cNP cNT cNTi : Addr) : Prop where
  em : PySem.W.exmOne K (.ref cNN) (.ref cPE) = some true
  ec : ExcC K cNN
  i1 : PySem.W.kitOne K (.ref cNN) (.ref cNN) = some true
  i2 : PySem.W.kitOne K (.ref cNN) (.type "ValueError") = some true
  i3 : PySem.W.kitAny K (.ref cNN) ([cCl, cNL, cNP, cNT, cNTi].map Value.ref) = some false
def wUn : WF := fun os q _ => ∃ d : D, os = [.fr d] ∧ isNet d = false ∧ q (.fr (.bool true)) [.fr d]
theorem b_un {K : PySem.W.Frag} {cPE cNN cCl cNL cNP cNT cNTi : Addr} (T : Cl2 K cPE cNN cCl cNL cNP cNT cNTi) : Body (bd__law_unwritten K cPE cNN cCl cNL cNP cNT cNTi (wNT cNN)) [] wUn 1 2 := by
  rintro os q x _ ⟨d, rfl, hd, h⟩
  have i3 := T.i3
  simp at i3
  simp [bd__law_unwritten]
  refine ⟨d, rfl, hd, ?_⟩
  simp [T.em, T.ec, T.i1, T.i2, i3]
  exact h
end K57
set_option Elab.async false
set_option linter.all false
set_option maxRecDepth 100000
set_option maxHeartbeats 2000000
namespace K57
open PySem PySem.Spec PyProof.Rows L2 DL TL
/-! ### a written net, read -/
theorem isRec_iff {m n : Int} {r : List Tie} (h : ROk m r) : isRec n (eR r) = true ↔ ∀ t ∈ r, t.2.2 < n := by
  constructor
  · intro hr t ht
    have := isRec_tie hr t ht
    simp [isTie, eT, isMom, isPl] at this
    omega
  · intro hn
    refine isRec_of ⟨h.hl, fun t ht => ?_, h.ris⟩
    have := h.tie t ht
    have := hn t ht
    unfold TOrd at *
    omega
theorem rd_rec2 {m n : Int} {r : List Tie} (hm : 1 ≤ m ∧ m ≤ 10) (h : ROk m r) : recRd n (recS r) = if isRec n (eR r) = true then some r else none := by
  have hb := h.bd hm
  unfold recRd
  by_cases c : r = []
  · subst c
    rw [if_pos (show recS [] = Str.ofString "none" from rfl), if_pos ((isRec_iff h).mpr (by simp))]
  · have e1 : ¬ recS r = Str.ofString "none" := rec_none c fun t ht => (hb t ht).ok
    have e2 : Txt.split (recS r) (Str.ofString "; ") = r.map tieS := rec_split c fun t ht => (hb t ht).ok
    have e3 : (r.map tieS).filterMap tieRd = r := by
      clear e1 e2 c h
      induction r with
      | nil => rfl
      | cons t r ih =>
        simp only [List.map_cons, List.filterMap_cons, rd_tie (hb t List.mem_cons_self)]
        rw [ih fun s hs => hb s (List.mem_cons_of_mem _ hs)]
    have all : ∀ p ∈ r.map tieS, tieRd p ≠ none := fun p hp => by
      obtain ⟨t, ht, rfl⟩ := List.mem_map.mp hp
      rw [rd_tie (hb t ht)]
      exact fun z => nomatch z
    rw [if_neg e1, e2, e3]
    by_cases hi : isRec n (eR r) = true
    · rw [if_pos hi, if_pos ⟨all, hi⟩]
    · rw [if_neg hi, if_neg fun hh => hi hh.2]
def NetOk (n k : Int) (r : List Tie) : Prop := (1 ≤ n ∧ n ≤ 10) ∧ (1 ≤ k ∧ k ≤ 6) ∧ (∀ t ∈ r, t.2.2 < n) ∧ 0 ∉ layN k.toNat r
theorem isNet_iff {m n k : Int} {r : List Tie} (h : ROk m r) : isNet (eN n k r) = true ↔ NetOk n k r := by
  have hr := isRec_iff (n := n) h
  unfold NetOk
  rw [← hr]
  simp only [isNet, eN, unR_eR, isCnt, Bool.and_eq_true, decide_eq_true_eq, Bool.not_eq_true', List.contains_eq_mem, decide_eq_false_iff_not]
theorem net_parts {n k : Int} {w : Str} (hn : 0 ≤ n) (hk : 0 ≤ k) : Txt.partition (numS n ++ Str.ofString " " ++ (numS k ++ Str.ofString " " ++ w)) (Str.ofString " ") = (numS n, Str.ofString " ", numS k ++ Str.ofString " " ++ w) ∧ Txt.partition (numS k ++ Str.ofString " " ++ w) (Str.ofString " ") = (numS k, Str.ofString " ", w) :=
  ⟨partition_app tl_blank (numS_free hn (by omega)), partition_app tl_blank (numS_free hk (by omega))⟩
theorem netS_eq (n k : Int) (r : List Tie) : netS n k r = numS n ++ Str.ofString " " ++ (numS k ++ Str.ofString " " ++ recS r) := by
  unfold netS
  simp only [app_assoc]
open Classical in
theorem rd_net {m n k : Int} {r : List Tie} (hm : 1 ≤ m ∧ m ≤ 10) (h : ROk m r) (hn : 0 ≤ n ∧ n < 100) (hk : 0 ≤ k ∧ k < 100) : netRd (netS n k r) = if NetOk n k r then some (n, k, r) else none := by
  obtain ⟨p1, p2⟩ := net_parts (w := recS r) hn.1 hk.1
  have r1 := rd_num hn.1 (by omega)
  have r2 := rd_num hk.1 (by omega)
  have ii := isNet_iff (n := n) (k := k) h
  unfold netRd
  rw [netS_eq, p1]
  dsimp only
  rw [p2]
  dsimp only
  rw [r1, r2]
  dsimp only
  rw [rd_rec2 hm h]
  by_cases c : NetOk n k r
  · have hmany : isMany (.int n) = true := by simp [isMany, c.1]
    have hrec : isRec n (eR r) = true := (isRec_iff h).mpr c.2.2.1
    rw [if_pos c, if_pos hmany, if_pos hrec]
    dsimp only
    rw [if_pos (ii.mpr c)]
  · rw [if_neg c]
    split
    · split
      · rename_i e
        split at e
        · cases e
          rw [if_neg fun z => c (ii.mp z)]
        · cases e
      · rfl
    · rfl
open Classical in
noncomputable def dueD (n k : Int) (r : List Tie) : D := if NetOk n k r then eN n k r else .none
def wDue : WF := fun os q _ => ∃ (m n k : Int) (r : List Tie), os = [.fr (.int n), .fr (.int k), .fr (eR r)] ∧ (1 ≤ m ∧ m ≤ 10) ∧ ROk m r ∧ q (.fr (dueD n k r)) [.fr (.int n), .fr (.int k), .fr (eR r)]
theorem wLay_i2 {n k : Int} {r : List Tie} {q x} (hn : 1 ≤ n ∧ n ≤ 10) (hk : 1 ≤ k ∧ k ≤ 6) (hl : r.length ≤ 60) (hp : Pls n r) (h : q (.ol (oI (layN k.toNat r))) [.fr (.int n), .fr (eR r), .fr (.int k)]) : wNd [.fr (.int n), .fr (eR r), .fr (.int k)] q x := ⟨n, k, r, rfl, hn, hk, hl, hp, h⟩
theorem ex_zero (l : List Int) : (∃ d, d ∈ l.map PyData.int ∧ d.eqv (.int 0) = true) ↔ 0 ∈ l := by
  constructor
  · rintro ⟨d, hd, e⟩
    obtain ⟨i, hi, rfl⟩ := List.mem_map.mp hd
    have e : (i == 0) = true := e
    rw [beq_iff_eq] at e
    rwa [e] at hi
  · intro h
    exact ⟨_, List.mem_map.mpr ⟨0, h, rfl⟩, rfl⟩
theorem b_due : Body (bd__law_due wNd) [] wDue 3 1 := by
  rintro os q x _ ⟨m, n, k, r, rfl, hm, hr, h⟩
  have no : ¬ NetOk n k r → q (.fr .none) [.fr (.int n), .fr (.int k), .fr (eR r)] := fun c => by
    unfold dueD at h
    rwa [if_neg c] at h
  by_cases c1 : 1 ≤ n ∧ n ≤ 10
  · by_cases c2 : 1 ≤ k ∧ k ≤ 6
    · simp [bd__law_due, c1, c2, eR]
      refine loop_inv eT (fun l ρ => ∃ y pre, ρ = [some (.fr (.int n)), some (.fr (.int k)), some (.fr (eR r)), y] ∧ r = pre ++ l ∧ ∀ t ∈ pre, t.2.2 < n) ?_ ?_ _ _ ⟨none, [], rfl, rfl, by simp⟩
      · rintro ⟨t0, t1, t2⟩ l ρ nx ⟨y, pre, rfl, e, hp⟩ hx
        simp [eT]
        by_cases c3 : n ≤ t2
        · have hq := no fun z => by
            have := z.2.2.1 (t0, t1, t2) (by rw [e]; simp)
            simp at this
            omega
          simp [c3]
          exact hq
        · simp [c3]
          refine hx _ ⟨some (.fr (eT (t0, t1, t2))), pre ++ [(t0, t1, t2)], rfl, by rw [e]; simp, fun t ht => ?_⟩
          rcases List.mem_append.mp ht with ht | ht
          · exact hp t ht
          · rw [List.mem_singleton.mp ht]
            show t2 < n
            omega
      · rintro ρ ⟨y, pre, rfl, e, hp⟩
        have hp : ∀ t ∈ r, t.2.2 < n := fun t ht => hp t (by rw [e] at ht; simpa using ht)
        have pls : Pls n r := fun t ht => by
          have := hr.tie t ht
          have := hp t ht
          unfold TOrd at *
          omega
        have two3 : 3 ≤ sizeLine := by rw [sizeLine_eq]; omega
        simp
        refine wLay_i2 c1 c2 hr.hl pls ?_
        simp
        refine ⟨sh_int.shaped (k := 1), (sh_eI _).shaped, ?_⟩
        by_cases c4 : 0 ∈ layN k.toNat r
        · have hq := no fun z => z.2.2.2 c4
          rw [if_pos ((ex_zero _).mpr c4)]
          exact hq
        · have ok : NetOk n k r := ⟨c1, c2, hp, c4⟩
          unfold dueD at h
          rw [if_pos ok] at h
          rw [if_neg fun z => c4 ((ex_zero _).mp z)]
          first
            | exact h
            | exact ⟨two3, h⟩
    · have hq := no fun z => c2 z.2.1
      by_cases a : 1 ≤ k
      · have b : ¬ k ≤ 6 := fun b => c2 ⟨a, b⟩
        simp [bd__law_due, c1, a, b]
        exact hq
      · simp [bd__law_due, c1, a]
        exact hq
  · have hq := no fun z => c1 z.1
    by_cases a : 1 ≤ n
    · have b : ¬ n ≤ 10 := fun b => c1 ⟨a, b⟩
      simp [bd__law_due, a, b]
      exact hq
    · simp [bd__law_due, a]
      exact hq
end K57
set_option Elab.async false
set_option linter.all false
set_option maxRecDepth 100000
set_option maxHeartbeats 2000000
namespace K57
open PySem PySem.Spec PyProof.Rows L2 DL TL
/-! ### texts that are no net's -/
theorem bad1 {z : Str} (h : numRd (Txt.partition z (Str.ofString " ")).1 = none) : netRd z = none := by
  unfold netRd
  rw [h]
theorem bad2 {z : Str} (h : numRd (Txt.partition (Txt.partition z (Str.ofString " ")).2.2 (Str.ofString " ")).1 = none) : netRd z = none := by
  unfold netRd
  rw [h]
  cases numRd (Txt.partition z (Str.ofString " ")).1 <;> rfl
theorem bad3 {z : Str} (h : ∀ n, recRd n (Txt.partition (Txt.partition z (Str.ofString " ")).2.2 (Str.ofString " ")).2.2 = none) : netRd z = none := by
  unfold netRd
  cases numRd (Txt.partition z (Str.ofString " ")).1 with
  | none => rfl
  | some n =>
    cases numRd (Txt.partition (Txt.partition z (Str.ofString " ")).2.2 (Str.ofString " ")).1 with
    | none => rfl
    | some k =>
      dsimp only
      rw [h n]
      split <;> rfl
theorem rec_empty (n : Int) : recRd n Str.empty = none := by
  refine rec_bad (p := Str.empty) (by decide) (by decide +kernel) ?_
  have e1 : (Txt.partition Str.empty ":").1 = Str.empty := by decide +kernel
  unfold tieRd
  rw [e1, rd_empty]
theorem app_empty (a : Str) : a ++ Str.empty = a := str_ext (by rw [tl_append]; show tl a ++ [] = tl a; simp)
theorem empty_app (a : Str) : Str.empty ++ a = a := str_ext (by rw [tl_append]; show [] ++ tl a = tl a; simp)
theorem rec_first {m : Int} {r : List Tie} (hm : 1 ≤ m ∧ m ≤ 10) (h : ROk m r) : numRd (Txt.partition (recS r) (Str.ofString " ")).1 = none := by
  have hb := h.bd hm
  match r, hb with
  | [], _ =>
    have e1 : (Txt.partition (recS []) (Str.ofString " ")).1 = Str.ofString "none" := by decide +kernel
    rw [e1]
    exact rd_bad (c := 110) (by decide) (by omega)
  | [t], hb =>
    have ht := hb t List.mem_cons_self
    have e : recS [t] = tieS t := by
      apply str_ext
      unfold recS
      rw [if_neg (by simp), join_eq, tl_join]
      rfl
    have p := partition_none (y := Str.ofString " ") (a := tieS t) tl_blank (tieS_free ht.ok (by omega))
    rw [e, p]
    refine rd_bad (c := 58) ?_ (by omega)
    unfold tieS
    simp only [tl_append]
    rw [show tl (":" : Str) = [58] from tl_colon]
    simp
  | t :: s :: r, hb =>
    have ht := hb t List.mem_cons_self
    have e : recS (t :: s :: r) = (tieS t ++ Str.ofString ";") ++ Str.ofString " " ++ Txt.join (Str.ofString "; ") (tieS s :: r.map tieS) := by
      apply str_ext
      unfold recS
      rw [if_neg (by simp), join_eq, tl_join]
      simp only [tl_append, join_eq, tl_join, List.map_cons]
      rw [show tl (Str.ofString ";") = [59] by decide, tl_sp]
      simp only [joinL]
      have : tl (Str.ofString "; ") = [59, 32] := by decide
      rw [this]
      simp
    have p := partition_app (y := Str.ofString " ") (a := tieS t ++ Str.ofString ";") (b := Txt.join (Str.ofString "; ") (tieS s :: r.map tieS)) tl_blank (by
      rw [tl_append, show tl (Str.ofString ";") = [59] by decide]
      have := tieS_free ht.ok (k := 32) (by omega)
      simpa using this)
    rw [e, p]
    refine rd_bad (c := 59) ?_ (by omega)
    rw [tl_append, show tl (Str.ofString ";") = [59] by decide]
    simp
/-- what _law_bad tells -/
def Bad (z : Str) : Prop := netRd z = none ∧ z.length ≤ 20000
section
variable {n k : Int} {r : List Tie} (hn : 1 ≤ n ∧ n ≤ 10) (hk : 1 ≤ k ∧ k ≤ 6) (h : ROk n r)
include hn hk h
theorem z0 : netRd (numS n ++ Str.ofString " " ++ numS k) = none := by
  have p1 := partition_app (y := Str.ofString " ") (b := numS k) tl_blank (numS_free (n := n) (k := 32) (by omega) (by omega))
  have p2 := partition_none (y := Str.ofString " ") tl_blank (numS_free (n := k) (k := 32) (by omega) (by omega))
  refine bad3 fun m => ?_
  rw [p1]
  dsimp only
  rw [p2]
  exact rec_empty m
theorem z1 : netRd (numS n ++ Str.ofString "  " ++ numS k ++ Str.ofString " " ++ recS r) = none := by
  have e : numS n ++ Str.ofString "  " ++ numS k ++ Str.ofString " " ++ recS r = numS n ++ Str.ofString " " ++ (Str.empty ++ Str.ofString " " ++ (numS k ++ Str.ofString " " ++ recS r)) := by
    have : Str.ofString "  " = Str.ofString " " ++ (Str.empty ++ Str.ofString " ") := by decide
    rw [this]
    simp only [app_assoc]
  have p1 := partition_app (y := Str.ofString " ") (b := Str.empty ++ Str.ofString " " ++ (numS k ++ Str.ofString " " ++ recS r)) tl_blank (numS_free (n := n) (k := 32) (by omega) (by omega))
  have p2 := partition_app (y := Str.ofString " ") (a := Str.empty) (b := numS k ++ Str.ofString " " ++ recS r) tl_blank (by show 32 ∉ []; simp)
  refine bad2 ?_
  rw [e, p1]
  dsimp only
  rw [p2]
  exact rd_empty
theorem z2 : netRd (recS r) = none := bad1 (rec_first hn h)
theorem z3 : netRd (numS k ++ Str.ofString " " ++ recS r) = none := by
  have p1 := partition_app (y := Str.ofString " ") (b := recS r) tl_blank (numS_free (n := k) (k := 32) (by omega) (by omega))
  refine bad2 ?_
  rw [p1]
  exact rec_first hn h
theorem z8 : netRd (Str.ofString "0" ++ numS n ++ Str.ofString " 1 " ++ recS r) = none := by
  have e : Str.ofString "0" ++ numS n ++ Str.ofString " 1 " ++ recS r = (Str.ofString "0" ++ numS n) ++ Str.ofString " " ++ (Str.ofString "1 " ++ recS r) := by
    have : Str.ofString " 1 " = Str.ofString " " ++ Str.ofString "1 " := by decide
    rw [this]
    simp only [app_assoc]
  have t0 : tl (Str.ofString "0") = [48] := by decide
  have p1 := partition_app (y := Str.ofString " ") (a := Str.ofString "0" ++ numS n) (b := Str.ofString "1 " ++ recS r) tl_blank (by
    rw [tl_append, t0]
    have := numS_free (n := n) (k := 32) (by omega) (by omega)
    simpa using this)
  refine bad1 ?_
  rw [e, p1]
  refine numRd_none fun ok => ?_
  have hh := ok.2.2.2 (by rw [tl_append, t0]; rfl)
  rw [tl_append, t0] at hh
  have : tl (numS n) = [] := by simpa using hh
  rw [tl_numS (by omega)] at this
  exact numL_neq _ this
theorem z9 : netRd (numS n ++ Str.ofString " 01 none") = none := by
  have e : numS n ++ Str.ofString " 01 none" = numS n ++ Str.ofString " " ++ Str.ofString "01 none" := by
    have : Str.ofString " 01 none" = Str.ofString " " ++ Str.ofString "01 none" := by decide
    rw [this, app_assoc]
  have p1 := partition_app (y := Str.ofString " ") (b := Str.ofString "01 none") tl_blank (numS_free (n := n) (k := 32) (by omega) (by omega))
  have e2 : (Txt.partition (Str.ofString "01 none") (Str.ofString " ")).1 = Str.ofString "01" := by decide +kernel
  refine bad2 ?_
  rw [e, p1]
  dsimp only
  rw [e2]
  refine numRd_none fun ok => ?_
  have hh := ok.2.2.2 (by decide)
  revert hh
  decide
theorem z14 : netRd (numS n ++ Str.ofString " " ++ numS k ++ Str.ofString " " ++ recS r ++ Str.ofString " ") = none := by
  obtain ⟨p1, p2⟩ := net_parts (n := n) (k := k) (w := recS r ++ Str.ofString " ") (by omega) (by omega)
  have e : numS n ++ Str.ofString " " ++ numS k ++ Str.ofString " " ++ recS r ++ Str.ofString " " = numS n ++ Str.ofString " " ++ (numS k ++ Str.ofString " " ++ (recS r ++ Str.ofString " ")) := by
    simp only [app_assoc]
  refine bad3 fun m => ?_
  rw [e, p1]
  dsimp only
  rw [p2]
  exact rec_end (h.bd hn)
end
theorem net_lit (n k : Int) (r : List Tie) (z : Str) (e : z = netS n k r) (hr : ROk 1 r) (hn : 0 ≤ n ∧ n < 100) (hk : 0 ≤ k ∧ k < 100) (h : ¬ NetOk n k r) : netRd z = none := by
  rw [e, rd_net (m := 1) (by omega) hr hn hk, if_neg h]
theorem ok_nil (n : Int) : ROk n [] := ⟨by simp, by simp, .nil⟩
theorem z10 : netRd (Str.ofString "1 0 none") = none := net_lit 1 0 [] _ (by decide +kernel) (ok_nil 1) (by omega) (by omega) fun h => by have := h.2.1; omega
theorem z11 : netRd (Str.ofString "11 2 none") = none := net_lit 11 2 [] _ (by decide +kernel) (ok_nil 1) (by omega) (by omega) fun h => by have := h.1; omega
theorem z13 : netRd (Str.ofString "2 7 none") = none := net_lit 2 7 [] _ (by decide +kernel) (ok_nil 1) (by omega) (by omega) fun h => by have := h.2.1; omega
theorem z15 : netRd (Str.ofString "1 1 0:0-0") = none := net_lit 1 1 [(0, 0, 0)] _ (by decide +kernel) ⟨by decide, by
    intro t ht
    rw [List.mem_singleton.mp ht]
    unfold TOrd
    decide, List.pairwise_singleton _ _⟩ (by omega) (by omega) fun h => h.2.2.2 (by
    have : layN (1 : Int).toNat [(0, 0, 0)] = [0] := by
      show [fstL [] 0 0 1 1] = [0]
      unfold fstL
      rw [if_pos (Conn.refl 0)]
      rfl
    rw [this]
    exact List.mem_singleton.mpr rfl)
theorem z12 : netRd (Str.ofString "-1 2 none") = none := bad1 (by
  have e : (Txt.partition (Str.ofString "-1 2 none") (Str.ofString " ")).1 = Str.ofString "-1" := by decide +kernel
  rw [e]
  exact rd_bad (c := 45) (by decide) (by omega))
theorem z4 : netRd (Str.ofString "") = none := bad1 (by
  have e : (Txt.partition (Str.ofString "") (Str.ofString " ")).1 = Str.empty := by decide +kernel
  rw [e]
  exact rd_empty)
theorem z5 : netRd (Str.ofString "none") = none := bad1 (by
  have e : (Txt.partition (Str.ofString "none") (Str.ofString " ")).1 = Str.ofString "none" := by decide +kernel
  rw [e]
  exact rd_bad (c := 110) (by decide) (by omega))
theorem z6 : netRd (Str.ofString "3 2") = none := bad3 fun m => by
  have e : (Txt.partition (Txt.partition (Str.ofString "3 2") (Str.ofString " ")).2.2 (Str.ofString " ")).2.2 = Str.empty := by decide +kernel
  rw [e]
  exact rec_empty m
theorem z7 : netRd (Str.ofString "3 2 ") = none := bad3 fun m => by
  have e : (Txt.partition (Txt.partition (Str.ofString "3 2 ") (Str.ofString " ")).2.2 (Str.ofString " ")).2.2 = Str.empty := by decide +kernel
  rw [e]
  exact rec_empty m
end K57
set_option Elab.async false
set_option linter.all false
set_option maxRecDepth 100000
set_option maxHeartbeats 4000000
namespace K57
open PySem PySem.Spec PyProof.Rows L2 DL TL
def wBad : WF := fun os q _ => ∃ (n k : Int) (r : List Tie) (a : Int), os = [.fr (.int n), .fr (.int k), .fr (eR r), .fr (.int a)] ∧ (1 ≤ n ∧ n ≤ 10) ∧ (1 ≤ k ∧ k ≤ 6) ∧ ROk n r ∧ ∀ z : Str, Bad z → q (.fr (.str z)) [.fr (.int n), .fr (.int k), .fr (eR r), .fr (.int a)]
theorem b_bad : Body (bd__law_bad wLT) [] wBad 4 2 := by
  rintro os q x _ ⟨n, k, r, a, rfl, hn, hk, hr, h⟩
  refine ⟨rfl, ?_⟩
  show bd__law_bad wLT _ [some (.fr (.int n)), some (.fr (.int k)), some (.fr (eR r)), some (.fr (.int a)), none, none]
  unfold bd__law_bad
  have rl := recS_len (hr.bd hn) hr.hl
  have nl := numS_len (n := n) (by omega) (k := 2) (by decide) (by omega)
  have kl := numS_len (n := k) (by omega) (k := 2) (by decide) (by omega)
  simp only [numS] at nl kl
  have q1 : (Str.ofString " ").length = 1 := by decide
  have q2 : (Str.ofString "  ").length = 2 := by decide
  have q3 : (Str.ofString "0").length = 1 := by decide
  have q4 : (Str.ofString " 1 ").length = 3 := by decide
  have q5 : (Str.ofString " 01 none").length = 8 := by decide
  have ln := log_ok (i := n) (by omega) (by omega)
  have lk := log_ok (i := k) (by omega) (by omega)
  have sl : ∀ m : Nat, m ≤ 20000 → m ≤ sizeLine := fun m hm => by rw [sizeLine_eq]; omega
  refine seq_cut (fun ρ => ρ = [some (.fr (.int n)), some (.fr (.int k)), some (.fr (eR r)), some (.fr (.int a)), some (.fr (.str (recS r))), none]) ?_ ?_
  · intro nx hx
    simp
    refine ⟨r, rfl, hr.bd hn, hr.hl, ?_⟩
    simp
    exact hx _ rfl
  rintro ρ rfl
  refine seq_cut (fun ρ => ∃ ss : List Str, ss.length = 4 ∧ (∀ s ∈ ss, Bad s) ∧ ρ = [some (.fr (.int n)), some (.fr (.int k)), some (.fr (eR r)), some (.fr (.int a)), some (.fr (.str (recS r))), some (.fr (.list (ss.map .str)))]) ?_ ?_
  · intro nx hx
    simp [ln, lk, len_app, q1, q2, -Int.toString_eq_repr]
    refine ⟨sl _ (by omega), sl _ (by omega), sl _ (by omega), sl _ (by omega), sl _ (by omega), sl _ (by omega), sl _ (by omega), sl _ (by omega), sl _ (by omega), ?_⟩
    refine hx _ ⟨[Str.ofString (toString n) ++ Str.ofString " " ++ Str.ofString (toString k), Str.ofString (toString n) ++ Str.ofString "  " ++ Str.ofString (toString k) ++ Str.ofString " " ++ recS r, recS r, Str.ofString (toString k) ++ Str.ofString " " ++ recS r], rfl, ?_, rfl⟩
    intro s hs
    simp only [List.mem_cons, List.not_mem_nil, or_false] at hs
    rcases hs with rfl | rfl | rfl | rfl
    · exact ⟨z0 hn hk hr, by simp only [len_app, q1]; omega⟩
    · exact ⟨z1 hn hk hr, by simp only [len_app, q1, q2]; omega⟩
    · exact ⟨z2 hn hk hr, by omega⟩
    · exact ⟨z3 hn hk hr, by simp only [len_app, q1]; omega⟩
  rintro ρ ⟨ss, h4, hss, rfl⟩
  refine seq_cut (fun ρ => ∃ ss : List Str, ss.length = 8 ∧ (∀ s ∈ ss, Bad s) ∧ ρ = [some (.fr (.int n)), some (.fr (.int k)), some (.fr (eR r)), some (.fr (.int a)), some (.fr (.str (recS r))), some (.fr (.list (ss.map .str)))]) ?_ ?_
  · intro nx hx
    have es := ers_of ss fun z => PyData.str z
    have fs := flts_of ss fun z => PyData.str z
    simp [Function.comp_def, es, fs]
    refine ⟨sl _ (by omega), sl _ (by omega), hx _ ⟨ss ++ [Str.ofString "", Str.ofString "none", Str.ofString "3 2", Str.ofString "3 2 "], by simp [h4], ?_, by simp⟩⟩
    intro s hs
    rcases List.mem_append.mp hs with hs | hs
    · exact hss s hs
    · simp only [List.mem_cons, List.not_mem_nil, or_false] at hs
      rcases hs with rfl | rfl | rfl | rfl
      · exact ⟨z4, by decide⟩
      · exact ⟨z5, by decide⟩
      · exact ⟨z6, by decide⟩
      · exact ⟨z7, by decide⟩
  rintro ρ ⟨ss, h8, hss, rfl⟩
  refine seq_cut (fun ρ => ∃ ss : List Str, ss.length = 14 ∧ (∀ s ∈ ss, Bad s) ∧ ρ = [some (.fr (.int n)), some (.fr (.int k)), some (.fr (eR r)), some (.fr (.int a)), some (.fr (.str (recS r))), some (.fr (.list (ss.map .str)))]) ?_ ?_
  · intro nx hx
    have es := ers_of ss fun z => PyData.str z
    have fs := flts_of ss fun z => PyData.str z
    simp [Function.comp_def, es, fs, ln, len_app, q3, q4, q5, -Int.toString_eq_repr]
    refine ⟨sl _ (by omega), sl _ (by omega), sl _ (by omega), sl _ (by omega), sl _ (by omega), sl _ (by omega), hx _ ⟨ss ++ [Str.ofString "0" ++ Str.ofString (toString n) ++ Str.ofString " 1 " ++ recS r, Str.ofString (toString n) ++ Str.ofString " 01 none", Str.ofString "1 0 none", Str.ofString "11 2 none", Str.ofString "-1 2 none", Str.ofString "2 7 none"], by simp [h8], ?_, by simp⟩⟩
    intro s hs
    rcases List.mem_append.mp hs with hs | hs
    · exact hss s hs
    · simp only [List.mem_cons, List.not_mem_nil, or_false] at hs
      rcases hs with rfl | rfl | rfl | rfl | rfl | rfl
      · exact ⟨z8 hn hk hr, by simp only [len_app, q3, q4]; omega⟩
      · exact ⟨z9 hn hk hr, by simp only [len_app, q5]; omega⟩
      · exact ⟨z10, by decide⟩
      · exact ⟨z11, by decide⟩
      · exact ⟨z12, by decide⟩
      · exact ⟨z13, by decide⟩
  rintro ρ ⟨ss, h14, hss, rfl⟩
  have es := ers_of ss fun z => PyData.str z
  have fs := flts_of ss fun z => PyData.str z
  obtain ⟨tt, ht⟩ : ∃ tt : List Str, tt = ss ++ [Str.ofString (toString n) ++ Str.ofString " " ++ Str.ofString (toString k) ++ Str.ofString " " ++ recS r ++ Str.ofString " ", Str.ofString "1 1 0:0-0"] := ⟨_, rfl⟩
  have htt : ∀ s ∈ tt, Bad s := by
    intro s hs
    rw [ht] at hs
    rcases List.mem_append.mp hs with hs | hs
    · exact hss s hs
    · simp only [List.mem_cons, List.not_mem_nil, or_false] at hs
      rcases hs with rfl | rfl
      · exact ⟨z14 hn hk hr, by simp only [len_app, q1]; omega⟩
      · exact ⟨z15, by decide⟩
  have tl16 : tt.length = 16 := by rw [ht]; simp [h14]
  have m0 := Int.emod_nonneg a (b := 16) (by decide)
  have m1 := Int.emod_lt_of_pos a (b := 16) (by decide)
  obtain ⟨w, hw⟩ : ∃ w, tt[(a % 16).toNat]? = some w := ⟨_, List.getElem?_eq_getElem (by omega)⟩
  have g : atI (tt.map fun x => O.fr (PyData.str x)) (a % 16) = some (O.fr (.str w)) := by
    rw [atI_map, atI_get m0 (by omega), hw]
    rfl
  have em : (ss.map fun x => O.fr (PyData.str x)) ++ [O.fr (PyData.str (Str.ofString (toString n) ++ Str.ofString " " ++ Str.ofString (toString k) ++ Str.ofString " " ++ recS r ++ Str.ofString " ")), O.fr (PyData.str (Str.ofString "1 1 0:0-0"))] = tt.map fun x => O.fr (PyData.str x) := by rw [ht]; simp
  simp [Function.comp_def, es, fs, ln, lk, len_app, q1, -Int.toString_eq_repr]
  refine ⟨sl _ (by omega), sl _ (by omega), sl _ (by omega), sl _ (by omega), sl _ (by omega), sl _ (by omega), sl _ (by omega), ?_⟩
  rw [em, g]
  exact h w (htt w (List.mem_of_getElem? hw))
end K57
set_option Elab.async false
set_option linter.all false
set_option maxRecDepth 100000
set_option maxHeartbeats 4000000
namespace K57
open PySem PySem.Spec PyProof.Rows L2 DL TL
def wNo : WF := fun os q _ => ∃ (n k : Int) (r : List Tie) (a : Int), os = [.fr (.int n), .fr (.int k), .fr (eR (kept k.toNat r)), .fr (eR r), .fr (.int a)] ∧ (1 ≤ n ∧ n ≤ 10) ∧ (1 ≤ k ∧ k ≤ 6) ∧ ROk n r ∧ r.length ≤ 60 ∧ 0 ≤ a ∧ ∀ d : D, isNet d = false → q (.fr d) [.fr (.int n), .fr (.int k), .fr (eR (kept k.toNat r)), .fr (eR r), .fr (.int a)]
theorem isNet_rec {n k : Int} {d : D} (h : isRec n d = false) : isNet (.tuple [.int n, .int k, d]) = false := by
  simp only [isNet, h, Bool.false_and, Bool.and_false]
theorem isNet_0 {n k : Int} {r : List Tie} (h : 0 ∈ layN k.toNat r) : isNet (eN n k r) = false := by
  have : (layN k.toNat r).contains 0 = true := by simpa using h
  simp only [isNet, eN, unR_eR, this, Bool.not_true, Bool.and_false]
theorem isNet_n {n k : Int} {d : D} (h : isCnt (.int n) 10 = false) : isNet (.tuple [.int n, .int k, d]) = false := by
  simp only [isNet, h, Bool.false_and]
theorem isNet_k {n k : Int} {d : D} (h : isCnt (.int k) 6 = false) : isNet (.tuple [.int n, .int k, d]) = false := by
  simp only [isNet, h, Bool.false_and, Bool.and_false]
theorem isRec_mem {n : Int} {ds : List D} {d : D} (hd : d ∈ ds) (h : isTie n d = false) : isRec n (.list ds) = false := by
  have : ds.all (isTie n) = false := List.all_eq_false.mpr ⟨d, hd, by simp [h]⟩
  simp only [isRec, this, Bool.false_and, Bool.and_false]
theorem fstL_self (d : List (Tie × Int)) (a : Int) : ∀ (c : Nat) (j : Int), fstL d a a c j = 0
  | 0, _ => rfl
  | c + 1, j => by
    unfold fstL
    rw [if_pos (Conn.refl a)]
    exact fstL_self d a c (j + 1)
theorem lay_self (k : Nat) (t : Tie) (h : t.2.1 = t.2.2) : ∀ r : List Tie, 0 ∈ layN k (r ++ [t])
  | [] => by
    show 0 ∈ [fstL [] t.2.1 t.2.2 k 1]
    rw [h, fstL_self]
    exact List.mem_singleton.mpr rfl
  | s :: r => List.mem_cons_of_mem _ (lay_self k t h r)
theorem kept_len {k : Nat} : ∀ r : List Tie, 0 ∉ layN k r → (kept k r).length = r.length
  | [], _ => rfl
  | t :: r, h => by
    have h1 : ¬ fstL (lays k r) t.2.1 t.2.2 k 1 = 0 := fun z => h (by
      show 0 ∈ fstL (lays k r) t.2.1 t.2.2 k 1 :: layN k r
      rw [z]
      exact List.mem_cons_self)
    have h2 : 0 ∉ layN k r := fun z => h (List.mem_cons_of_mem _ z)
    have rg := fstL_range (lays k r) t.2.1 t.2.2 k 1
    have c : 0 < fstL (lays k r) t.2.1 t.2.2 k 1 := by omega
    have e : kept k (t :: r) = t :: kept k r := by simp [kept, lays, c]
    rw [e, List.length_cons, List.length_cons, kept_len r h2]
theorem b_no : Body bd__law_no_net [] wNo 5 1 := by
  rintro os q x _ ⟨n, k, r, a, rfl, hn, hk, hr, hl, ha, h⟩
  refine ⟨rfl, ?_⟩
  show bd__law_no_net _ [some (.fr (.int n)), some (.fr (.int k)), some (.fr (eR (kept k.toNat r))), some (.fr (eR r)), some (.fr (.int a)), none]
  unfold bd__law_no_net
  have kl := (kept_sub k.toNat r).length_le
  have sl : ∀ m : Nat, m ≤ 20000 → m ≤ sizeLine := fun m hm => by rw [sizeLine_eq]; omega
  refine seq_cut (fun ρ => ∃ ss : List D, ss.length = 7 ∧ (∀ s ∈ ss, isNet s = false) ∧ ρ = [some (.fr (.int n)), some (.fr (.int k)), some (.fr (eR (kept k.toNat r))), some (.fr (eR r)), some (.fr (.int a)), some (.ol (ss.map .fr))]) ?_ ?_
  · intro nx hx
    simp [eR, flts_oR', ers_oR']
    refine ⟨sl _ (by omega), sl _ (by omega), sl _ (by omega), sl _ (by omega), hx _ ⟨[.tuple [.int n, .int k], .tuple [.int n, .int k, .list ((kept k.toNat r).map eT), .int 0], .list [.int n, .int k, .list ((kept k.toNat r).map eT)], .tuple [.int n, .int k, .tuple ((kept k.toNat r).map eT)], .none, .str (Str.ofString "3 2 none"), .tuple [.int 11, .int k, .list ((kept k.toNat r).map eT)]], rfl, ?_, rfl⟩⟩
    intro s hs
    simp only [List.mem_cons, List.not_mem_nil, or_false] at hs
    rcases hs with rfl | rfl | rfl | rfl | rfl | rfl | rfl
    · rfl
    · rfl
    · rfl
    · exact isNet_rec rfl
    · rfl
    · rfl
    · exact isNet_n (by decide)
  rintro ρ ⟨ss, h7, hss, rfl⟩
  refine seq_cut (fun ρ => ∃ ss : List D, ss.length = 13 ∧ (∀ s ∈ ss, isNet s = false) ∧ ρ = [some (.fr (.int n)), some (.fr (.int k)), some (.fr (eR (kept k.toNat r))), some (.fr (eR r)), some (.fr (.int a)), some (.ol (ss.map .fr))]) ?_ ?_
  · intro nx hx
    simp [eR]
    refine ⟨sl _ (by omega), sl _ (by omega), sl _ (by omega), hx _ ⟨ss ++ [.tuple [.int n, .int 7, .list ((kept k.toNat r).map eT)], .tuple [.int n, .int 0, .list ((kept k.toNat r).map eT)], .tuple [.int 0, .int k, .list []], .tuple [.int n, .int k, .none], .tuple [.bool true, .int k, .list []], .tuple [.int n, .bool true, .list ((kept k.toNat r).map eT)]], by simp [h7], ?_, by simp [eR]⟩⟩
    intro s hs
    rcases List.mem_append.mp hs with hs | hs
    · exact hss s hs
    · simp only [List.mem_cons, List.not_mem_nil, or_false] at hs
      rcases hs with rfl | rfl | rfl | rfl | rfl | rfl
      · exact isNet_k (by decide)
      · exact isNet_k (by decide)
      · exact isNet_n (by decide)
      · exact isNet_rec rfl
      · rfl
      · rfl
  rintro ρ ⟨ss, h13, hss, rfl⟩
  refine seq_cut (fun ρ => ∃ ss : List D, ss.length = 18 ∧ (∀ s ∈ ss, isNet s = false) ∧ ρ = [some (.fr (.int n)), some (.fr (.int k)), some (.fr (eR (kept k.toNat r))), some (.fr (eR r)), some (.fr (.int a)), some (.ol (ss.map .fr))]) ?_ ?_
  · intro nx hx
    simp [eR, flts_oR', ers_oR']
    refine ⟨sl _ (by omega), sl _ (by omega), sl _ (by omega), by unfold CPow; omega, sl _ (by omega), sl _ (by omega), sl _ (by omega), sl _ (by omega), sl _ (by omega), sl _ (by omega), sl _ (by omega), sl _ (by omega), hx _ ⟨ss ++ [.tuple [.int n, .int k, .list ((kept k.toNat r).map eT ++ [.none])], .tuple [.int n, .int k, .list ((kept k.toNat r).map eT ++ [.tuple [.int 1000000000000000000000000000000, .int 0, .int 0]])], .tuple [.int n, .int k, .list [.tuple [.int 1, .int 0, .int n]]], .int 7, .tuple []], by simp [h13], ?_, by simp [eR]⟩⟩
    intro s hs
    rcases List.mem_append.mp hs with hs | hs
    · exact hss s hs
    · simp only [List.mem_cons, List.not_mem_nil, or_false] at hs
      rcases hs with rfl | rfl | rfl | rfl | rfl
      · exact isNet_rec (isRec_mem (d := .none) (by simp) rfl)
      · have e : PyData.tuple [.int n, .int k, .list ((kept k.toNat r).map eT ++ [.tuple [.int 1000000000000000000000000000000, .int 0, .int 0]])] = eN n k (kept k.toNat r ++ [(1000000000000000000000000000000, 0, 0)]) := by
          simp [eN, eR, eT]
        rw [e]
        exact isNet_0 (lay_self _ _ rfl _)
      · refine isNet_rec (isRec_mem (List.mem_singleton.mpr rfl) ?_)
        simp [isTie, isPl]
      · rfl
      · rfl
  rintro ρ ⟨ss, h18, hss, rfl⟩
  have fin : ∀ ss : List D, (ss.length = 18 ∨ ss.length = 19) → (∀ s ∈ ss, isNet s = false) → dRet (dIxO 5 (dOp gMod (dVar 4) (dBor (dCB fLen (dCons (dVar 5) dNil))))) { nx := fun ρ => fin [] [O.fr (.int n), O.fr (.int k), O.fr (eR (kept k.toNat r)), O.fr (eR r), O.fr (.int a)] ρ (q (.fr .none)), rt := fun o ρ => fin [] [O.fr (.int n), O.fr (.int k), O.fr (eR (kept k.toNat r)), O.fr (eR r), O.fr (.int a)] ρ (q o), xc := fun xd ρ => fin [] [O.fr (.int n), O.fr (.int k), O.fr (eR (kept k.toNat r)), O.fr (eR r), O.fr (.int a)] ρ (x xd) } [some (.fr (.int n)), some (.fr (.int k)), some (.fr (eR (kept k.toNat r))), some (.fr (eR r)), some (.fr (.int a)), some (.ol (ss.map .fr))] := fun ss hlen hss => by
    have hl0 : 0 < (ss.length : Int) := by omega
    have m0 := Int.emod_nonneg a (b := (ss.length : Int)) (by omega)
    have m1 := Int.emod_lt_of_pos a hl0
    obtain ⟨w, hw⟩ : ∃ w, ss[(a % (ss.length : Int)).toNat]? = some w := ⟨_, List.getElem?_eq_getElem (by omega)⟩
    have g : atI ss (a % (ss.length : Int)) = some w := by rw [atI_get m0 m1, hw]
    have hl1 : 0 < ss.length := by omega
    simp [g, hl1]
    exact h w (hss w (List.mem_of_getElem? hw))
  refine seq_cut (fun ρ => ∃ ss : List D, (ss.length = 18 ∨ ss.length = 19) ∧ (∀ s ∈ ss, isNet s = false) ∧ ρ = [some (.fr (.int n)), some (.fr (.int k)), some (.fr (eR (kept k.toNat r))), some (.fr (eR r)), some (.fr (.int a)), some (.ol (ss.map .fr))]) ?_ ?_
  · intro nx hx
    simp [eR]
    split
    · rename_i c
      refine ⟨sl _ (by omega), by rw [h18]; exact sl _ (by omega), hx _ ⟨ss ++ [eN n k r], by simp [h18], fun s hs => ?_, by simp [eN, eR]⟩⟩
      rcases List.mem_append.mp hs with hs | hs
      · exact hss s hs
      · rw [List.mem_singleton.mp hs]
        refine isNet_0 ?_
        by_cases z : 0 ∈ layN k.toNat r
        · exact z
        · have := kept_len r z
          omega
    · exact hx _ ⟨ss, .inl h18, hss, by simp [eR]⟩
  rintro ρ ⟨ss, hlen, hss, rfl⟩
  exact fin ss hlen hss
end K57
set_option Elab.async false
set_option linter.all false
set_option maxRecDepth 100000
set_option maxHeartbeats 4000000
namespace K57
open PySem PySem.Spec PyProof.Rows L2 DL TL
def wLaw : WF := fun os q _ => ∃ ns : List Int, os = [.fr (eI ns)] ∧ ns.length ≤ 1000 ∧ q (.fr (.bool true)) [.fr (eI ns)]
abbrev bdLaw : DT := bd_law wNums wRec wDep wNd wLT wLR wDue wBad wUn wNo
def st1 : DT :=
  (dAsg (dFrz (dCall 3 wNums [] (dConsR (dVar 1) (dConsR (dC (.int 48)) (dConsR (dOp gPow (dC (.int 10)) (dC (.int 30))) dNilR))))) (dName 2))
def st2 : DT :=
  (dAsg (dCall 2 wRec [] (dConsR (dFrz (dSlL (dVar 2) (dPart (dC (.int 8))) dNoPart)) (dConsR (dC (.int 12)) dNilR))) (dGTup 2 (dGCons (dName 8) (dGCons (dName 9) dGNil))))
def st3 : DT :=
  (dAsg (dCall 1 wDep [] (dConsR (dOp fIx (dVar 2) (dC (.int 0))) dNilR)) (dName 3))
def st4 : DT :=
  (dAsg (dFrz (dCall 3 wNd [] (dConsR (dVar 8) (dConsR (dVar 9) (dConsR (dVar 3) dNilR))))) (dName 4))
def st5 : DT :=
  (dAsg (dFrz (dLc (dZip (dCons (dVar 9) (dCons (dVar 4) dNil))) (dGTup 2 (dGCons (dName 12) (dGCons (dName 13) dGNil))) (dTest (dOp cGt (dVar 13) (dC (.int 0)))) (dVar 12) [12, 13])) (dName 5))
def st6 : DT :=
  (dFor (dItems (dFrz (dLst (dCons (dFrz (dTup (dCons (dVar 8) (dCons (dVar 3) (dCons (dVar 5) dNil))))) (dCons (dFrz (dTup (dCons (dVar 8) (dCons (dVar 3) (dCons (dVar 9) dNil))))) (dCons (dFrz (dTup (dCons (dVar 8) (dCons (dOp fAdd (dC (.int 1)) (dOp gMod (dOp fIx (dVar 2) (dC (.int 1))) (dC (.int 6)))) (dCons (dVar 5) dNil))))) dNil)))))) (dGTup 3 (dGCons (dName 6) (dGCons (dName 10) (dGCons (dName 11) dGNil)))) (dSeq (dAsg (dOp fAdd (dOp fAdd (dOp fAdd (dOp fAdd (dCB fStr (dCons (dVar 6) dNil)) (dC (.str " "))) (dCB fStr (dCons (dVar 10) dNil))) (dC (.str " "))) (dCall 1 wLT [] (dConsR (dVar 11) dNilR))) (dName 7))       (dIfS (dTest (dOp (fEqB true) (dFrz (dCall 1 wLR [] (dConsR (dVar 7) dNilR))) (dCall 3 wDue [] (dConsR (dVar 6) (dConsR (dVar 10) (dConsR (dVar 11) dNilR)))))) (dRet (dC (.bool false))) dNext)))
def st7 : DT :=
  (dAsg (dOp gMod (dOp fIx (dVar 2) (dC (.int 2))) (dC (.int 13))) (dName 6))
def st8 : DT :=
  (dAsg (dOp fAdd (dOp fAdd (dOp fAdd (dOp fAdd (dCB fStr (dCons (dVar 6) dNil)) (dC (.str " "))) (dCB fStr (dCons (dVar 3) dNil))) (dC (.str " "))) (dCall 1 wLT [] (dConsR (dVar 5) dNilR))) (dName 7))
def st9 : DT :=
  (dIfS (dTest (dOp (fEqB true) (dFrz (dCall 1 wLR [] (dConsR (dVar 7) dNilR))) (dCall 3 wDue [] (dConsR (dVar 6) (dConsR (dVar 3) (dConsR (dVar 5) dNilR)))))) (dRet (dC (.bool false))) dNext)
def st10 : DT :=
  (dIfS (dTest (dOp (fIsN true) (dFrz (dCall 1 wLR [] (dConsR (dCall 4 wBad [] (dConsR (dVar 8) (dConsR (dVar 3) (dConsR (dVar 5) (dConsR (dOp fIx (dVar 2) (dC (.int 3))) dNilR))))) dNilR))) (dC .none))) (dRet (dC (.bool false))) dNext)
def st11 : DT :=
  (dIfS (dNot (dTest (dCall 1 wUn [] (dConsR (dCall 5 wNo [] (dConsR (dVar 8) (dConsR (dVar 3) (dConsR (dVar 5) (dConsR (dVar 9) (dConsR (dOp fIx (dVar 2) (dC (.int 4))) dNilR)))))) dNilR)))) (dRet (dC (.bool false))) dNext)
def bdTurn : DT := dSeq st1 (dSeq st2 (dSeq st3 (dSeq st4 (dSeq st5 (dSeq st6 (dSeq st7 (dSeq st8 (dSeq st9 (dSeq st10 st11)))))))))
theorem cutF {α : Type} (k : Nat) (l : List α) (f : α → O) : cutO (l.map f) none (some (k : Int)) = (l.take k).map f := by
  unfold cutO
  rw [HT.sIx_none, show HT.sIx (l.map f).length (l.map f).length (some (k : Int)) = min k (l.map f).length from HT.sIx_nat _ _ k]
  rw [List.drop_zero, Nat.sub_zero, ← List.map_take, List.length_map]
  congr 1
  rw [Nat.min_def]
  split
  · rfl
  · rw [List.take_of_length_le (Nat.le_refl _), List.take_of_length_le (by omega)]
theorem cut10 {α : Type} (l : List α) (f : α → O) : cutO (l.map f) none (some 10) = (l.take 10).map f := cutF 10 l f
theorem cut8 {α : Type} (l : List α) (f : α → O) : cutO (l.map f) (some 8) none = (l.drop 8).map f := by
  unfold cutO
  rw [HT.sIx_none, show HT.sIx (l.map f).length 0 (some 8) = min 8 (l.map f).length from HT.sIx_nat _ _ 8]
  rw [← List.map_drop, ← List.map_take, List.length_map]
  congr 1
  rw [Nat.min_def]
  split
  · rw [List.take_of_length_le (by simp)]
  · rw [List.drop_of_length_le (Nat.le_refl _), List.drop_of_length_le (by omega)]
    simp
theorem two : 3 ≤ sizeLine := by rw [sizeLine_eq]; omega
theorem nn_shaped : SeqAt.shaped PyData.none = true := (sh_none (k := 1)).shaped
section
variable {ns : List Int} {E : EE}
theorem s1 {c : Int} {y2 y3 y4 y5 y6 y7 y8 y9 y10 y11 y12 y13 : Option O}  (h : ∀ l : List Int, l.length = 48 → (∀ i ∈ l, i30 i) → E.nx [some (.fr (eI ns)), some (.fr (.int c)), some (.fr (eI l)), y3, y4, y5, y6, y7, y8, y9, y10, y11, y12, y13]) : st1 E [some (.fr (eI ns)), some (.fr (.int c)), y2, y3, y4, y5, y6, y7, y8, y9, y10, y11, y12, y13] := by
  unfold st1
  simp
  refine ⟨by unfold CPow; omega, c, 48, 10 ^ 30, rfl, by omega, by omega, fun l hl hi => ?_⟩
  simp
  exact h l (by omega) hi
theorem s2 {l : List Int} {y1 y3 y4 y5 y6 y7 y8 y9 y10 y11 y12 y13 : Option O} (hl : l.length = 48) (hi : ∀ i ∈ l, i30 i) (h : ∀ (n : Int) (r : List Tie), (1 ≤ n ∧ n ≤ 10) → ROk n r → E.nx [some (.fr (eI ns)), y1, some (.fr (eI l)), y3, y4, y5, y6, y7, some (.fr (.int n)), some (.fr (eR r)), y10, y11, y12, y13]) : st2 E [some (.fr (eI ns)), y1, some (.fr (eI l)), y3, y4, y5, y6, y7, y8, y9, y10, y11, y12, y13] := by
  unfold st2
  simp [eI, cut8, flts_oI', ers_oI', -List.map_drop]
  refine ⟨trivial, l.drop 8, 12, rfl, by simp; omega, fun i hm => hi i (List.mem_of_mem_drop hm), by omega, fun n r hn hr hl ht => ?_⟩
  simpa [eI] using h n r hn hr
theorem s3 {l : List Int} {n : Int} {r : List Tie} {y1 y3 y4 y5 y6 y7 y10 y11 y12 y13 : Option O} (hl : l.length = 48) (hi : ∀ i ∈ l, i30 i) (hn : 1 ≤ n ∧ n ≤ 10) (hr : ROk n r) (h : ∀ k : Int, (1 ≤ k ∧ k ≤ 6) → E.nx [some (.fr (eI ns)), y1, some (.fr (eI l)), some (.fr (.int k)), y4, y5, y6, y7, some (.fr (.int n)), some (.fr (eR r)), y10, y11, y12, y13]) : st3 E [some (.fr (eI ns)), y1, some (.fr (eI l)), y3, y4, y5, y6, y7, some (.fr (.int n)), some (.fr (eR r)), y10, y11, y12, y13] := by
  unfold st3
  have g : atI l 0 = some (gt l 0) := atI_gt (by omega)
  have hp := hi _ (List.mem_of_getElem? (gt_some (m := l) (a := 0) (by omega) (by omega)))
  simp [eI, g]
  refine ⟨_, rfl, hp.1, fun k hk => ?_⟩
  simpa [eI] using h k hk
theorem s4 {l : List Int} {n : Int} {r : List Tie} {k : Int} {y1 y4 y5 y6 y7 y10 y11 y12 y13 : Option O} (hl : l.length = 48) (hi : ∀ i ∈ l, i30 i) (hn : 1 ≤ n ∧ n ≤ 10) (hr : ROk n r) (hk : 1 ≤ k ∧ k ≤ 6) (h : E.nx [some (.fr (eI ns)), y1, some (.fr (eI l)), some (.fr (.int k)), some (.fr (eI (layN k.toNat r))), y5, y6, y7, some (.fr (.int n)), some (.fr (eR r)), y10, y11, y12, y13]) : st4 E [some (.fr (eI ns)), y1, some (.fr (eI l)), some (.fr (.int k)), y4, y5, y6, y7, some (.fr (.int n)), some (.fr (eR r)), y10, y11, y12, y13] := by
  unfold st4
  simp
  refine ⟨n, k, r, rfl, hn, hk, hr.hl, hr.pls, ?_⟩
  simp
  exact h
theorem s5 {l : List Int} {n : Int} {r : List Tie} {k : Int} {y1 y5 y6 y7 y10 y11 y12 y13 : Option O} (hl : l.length = 48) (hi : ∀ i ∈ l, i30 i) (hn : 1 ≤ n ∧ n ≤ 10) (hr : ROk n r) (hk : 1 ≤ k ∧ k ≤ 6) (h : E.nx [some (.fr (eI ns)), y1, some (.fr (eI l)), some (.fr (.int k)), some (.fr (eI (layN k.toNat r))), some (.fr (eR (kept k.toNat r))), y6, y7, some (.fr (.int n)), some (.fr (eR r)), y10, y11, none, none]) : st5 E [some (.fr (eI ns)), y1, some (.fr (eI l)), some (.fr (.int k)), some (.fr (eI (layN k.toNat r))), y5, y6, y7, some (.fr (.int n)), some (.fr (eR r)), y10, y11, y12, y13] := by
  unfold st5
  have := hr.hl
  have e : zipD (r.map eT) ((layN k.toNat r).map PyData.int) = (lays k.toNat r).map fun z => PyData.tuple [eT z.1, .int z.2] := by
    conv => lhs; arg 1; arg 2; rw [← lays_fst k.toNat r]
    unfold zipD layN
    rw [List.map_map, List.map_map, List.zip_map', List.map_map]
    rfl
  simp [dLc, eR, eI, e]
  refine lcL_filterE (lays k.toNat r) _ (fun z => if 0 < z.2 then some (.fr (eT z.1)) else none) ?_ (by have := congrArg List.length (lays_fst k.toNat r); simp at this; omega) ?_
  · intro z hz kk hk
    by_cases c : 0 < z.2
    · simp [c] at hk ⊢
      exact hk
    · simp [c] at hk ⊢
      exact hk
  · have e2 : (lays k.toNat r).filterMap (fun z => if 0 < z.2 then some (O.fr (eT z.1)) else none) = oR (kept k.toNat r) := by
      unfold kept oR
      rw [List.map_map]
      induction lays k.toNat r with
      | nil => rfl
      | cons z d ih =>
        by_cases c : 0 < z.2
        · simp [c, ih]
        · simp [c, ih]
    rw [e2]
    simp
    exact h
theorem rdue {n p ly : Int} {s : List Tie} {ρ : DL.Env} {a b c : Nat} (hn : 1 ≤ n ∧ n ≤ 10) (hs : ROk n s) (hp : 0 ≤ p ∧ p < 100) (hy : 0 ≤ ly ∧ ly < 100) (g7 : ρ[7]? = some (some (.fr (.str (netS p ly s))))) (ga : ρ[a]? = some (some (.fr (.int p)))) (gb : ρ[b]? = some (some (.fr (.int ly)))) (gc : ρ[c]? = some (some (.fr (eR s)))) (h : E.nx ρ) :
    dIfS (dTest (dOp (fEqB true) (dFrz (dCall 1 wLR [] (dConsR (dVar 7) dNilR))) (dCall 3 wDue [] (dConsR (dVar a) (dConsR (dVar b) (dConsR (dVar c) dNilR)))))) (dRet (dC (.bool false))) dNext E ρ := by
  have kl := recS_len (hs.bd hn) hs.hl
  have nl := numS_len (n := p) (by omega) (k := 2) (by decide) (by omega)
  have yl := numS_len (n := ly) (by omega) (k := 2) (by decide) (by omega)
  have q1 : (Str.ofString " ").length = 1 := by decide
  have nn : PyData.none.eqv PyData.none = true := rfl
  simp [g7]
  refine ⟨_, rfl, by unfold netS; rw [len_app, len_app, len_app, len_app, show (" " : Str).length = 1 from q1]; omega, ?_⟩
  rw [rd_net hn hs (by omega) (by omega)]
  by_cases c : NetOk p ly s
  · have e : dueD p ly s = eN p ly s := if_pos c
    have sh := (sh_eN p ly s).shaped
    have en : PyData.tuple [.int p, .int ly, .list (s.map eT)] = eN p ly s := rfl
    rw [if_pos c]
    simp [en, ga, gb, gc]
    refine ⟨n, p, ly, s, rfl, hn, hs, ?_⟩
    rw [e]
    refine ⟨rfl, rfl, sh, sh, ?_⟩
    refine (if_pos ?_ : (if PyData.eqv (eN p ly s) (eN p ly s) = true then E.nx ρ else E.rt (O.fr (PyData.bool false)) ρ) = E.nx ρ).mpr h
    exact eqv_eN p ly s
  · have e : dueD p ly s = .none := if_neg c
    rw [if_neg c]
    simp [ga, gb, gc]
    refine ⟨n, p, ly, s, rfl, hn, hs, ?_⟩
    rw [e]
    simp [nn, nn_shaped]
    exact h
theorem s6 {l : List Int} {n : Int} {r : List Tie} {k : Int} {y1 y6 y7 y10 y11 : Option O} (hl : l.length = 48) (hi : ∀ i ∈ l, i30 i) (hn : 1 ≤ n ∧ n ≤ 10) (hr : ROk n r) (hk : 1 ≤ k ∧ k ≤ 6) (h : ∀ y6 y7 y10 y11, E.nx [some (.fr (eI ns)), y1, some (.fr (eI l)), some (.fr (.int k)), some (.fr (eI (layN k.toNat r))), some (.fr (eR (kept k.toNat r))), y6, y7, some (.fr (.int n)), some (.fr (eR r)), y10, y11, y12, y13]) : st6 E [some (.fr (eI ns)), y1, some (.fr (eI l)), some (.fr (.int k)), some (.fr (eI (layN k.toNat r))), some (.fr (eR (kept k.toNat r))), y6, y7, some (.fr (.int n)), some (.fr (eR r)), y10, y11, y12, y13] := by
  unfold st6
  have g : atI l 1 = some (gt l 1) := atI_gt (by omega)
  have hs := hr.sub (kept_sub k.toNat r)
  have q1 : (Str.ofString " ").length = 1 := by decide
  have sl : ∀ m : Nat, m ≤ 20000 → m ≤ sizeLine := fun m hm => by rw [sizeLine_eq]; omega
  rw [dFor]
  have first : ∀ Q : List D → DL.Env → Prop, Q ([(n, k, kept k.toNat r), (n, k, r), (n, 1 + gt l 1 % 6, kept k.toNat r)].map fun t : Int × Int × List Tie => eN t.1 t.2.1 t.2.2) [some (.fr (eI ns)), y1, some (.fr (eI l)), some (.fr (.int k)), some (.fr (eI (layN k.toNat r))), some (.fr (eR (kept k.toNat r))), y6, y7, some (.fr (.int n)), some (.fr (eR r)), y10, y11, y12, y13] → dItems (dFrz (dLst (dCons (dFrz (dTup (dCons (dVar 8) (dCons (dVar 3) (dCons (dVar 5) dNil))))) (dCons (dFrz (dTup (dCons (dVar 8) (dCons (dVar 3) (dCons (dVar 9) dNil))))) (dCons (dFrz (dTup (dCons (dVar 8) (dCons (dOp fAdd (dC (.int 1)) (dOp DL.gMod (dOp fIx (dVar 2) (dC (.int 1))) (dC (.int 6)))) (dCons (dVar 5) dNil))))) dNil))))) [some (.fr (eI ns)), y1, some (.fr (eI l)), some (.fr (.int k)), some (.fr (eI (layN k.toNat r))), some (.fr (eR (kept k.toNat r))), y6, y7, some (.fr (.int n)), some (.fr (eR r)), y10, y11, y12, y13] Q E.xc := fun Q hq => by
    have two3 := two
    simp [eI, g, two3]
    first
      | exact hq
      | exact ⟨two3, hq⟩
      | exact ⟨two3, two3, hq⟩
  refine first _ ?_
  refine loop_inv _ (fun ts ρ => ∃ y6 y7 y10 y11, (∀ t ∈ ts, (0 ≤ t.1 ∧ t.1 < 100) ∧ (0 ≤ t.2.1 ∧ t.2.1 < 100) ∧ ROk n t.2.2) ∧ ρ = [some (.fr (eI ns)), y1, some (.fr (eI l)), some (.fr (.int k)), some (.fr (eI (layN k.toNat r))), some (.fr (eR (kept k.toNat r))), y6, y7, some (.fr (.int n)), some (.fr (eR r)), y10, y11, y12, y13]) ?_ ?_ _ _ ⟨y6, y7, y10, y11, ?_, rfl⟩
  · rintro ⟨p, ly, s⟩ ts ρ nx ⟨y6, y7, y10, y11, ht, rfl⟩ hx
    obtain ⟨hp, hy, hs⟩ := ht _ List.mem_cons_self
    have hp : 0 ≤ p ∧ p < 100 := hp
    have hy : 0 ≤ ly ∧ ly < 100 := hy
    have hs : ROk n s := hs
    have kl := recS_len (hs.bd hn) hs.hl
    have nl := numS_len (n := p) (by omega) (k := 2) (by decide) (by omega)
    have yl := numS_len (n := ly) (by omega) (k := 2) (by decide) (by omega)
    simp only [numS] at nl yl
    have hp1 := hp
    have hy1 := hy
    have l1 := log_ok (i := p) (by omega) (by omega)
    have l2 := log_ok (i := ly) (by omega) (by omega)
    simp [eN, l1, l2, len_app, q1, -Int.toString_eq_repr, -dIfS]
    refine ⟨sl _ (by omega), sl _ (by omega), sl _ (by omega), s, rfl, hs.bd hn, hs.hl, ?_⟩
    simp [-dIfS, len_app, q1, -Int.toString_eq_repr]
    refine ⟨sl _ (by omega), ?_⟩
    exact rdue (n := n) (p := p) (ly := ly) (s := s) hn hs hp hy rfl rfl rfl rfl (hx _ ⟨_, _, _, _, fun t h' => ht t (List.mem_cons_of_mem _ h'), rfl⟩)
  · rintro ρ ⟨y6, y7, y10, y11, -, rfl⟩
    exact h _ _ _ _
  · intro t htt
    have m0 := Int.emod_nonneg (gt l 1) (b := 6) (by decide)
    have m1 := Int.emod_lt_of_pos (gt l 1) (b := 6) (by decide)
    simp at htt
    rcases htt with rfl | rfl | rfl
    · exact ⟨by dsimp only; omega, by dsimp only; omega, hs⟩
    · exact ⟨by dsimp only; omega, by dsimp only; omega, hr⟩
    · exact ⟨by dsimp only; omega, by dsimp only; omega, hs⟩
theorem s7 {l : List Int} {n : Int} {r : List Tie} {k : Int} {y1 y6 y7 y10 y11 y12 y13 : Option O} (hl : l.length = 48) (hi : ∀ i ∈ l, i30 i) (hn : 1 ≤ n ∧ n ≤ 10) (hr : ROk n r) (hk : 1 ≤ k ∧ k ≤ 6) (h : ∀ p : Int, (0 ≤ p ∧ p < 100) → E.nx [some (.fr (eI ns)), y1, some (.fr (eI l)), some (.fr (.int k)), some (.fr (eI (layN k.toNat r))), some (.fr (eR (kept k.toNat r))), some (.fr (.int p)), y7, some (.fr (.int n)), some (.fr (eR r)), y10, y11, y12, y13]) : st7 E [some (.fr (eI ns)), y1, some (.fr (eI l)), some (.fr (.int k)), some (.fr (eI (layN k.toNat r))), some (.fr (eR (kept k.toNat r))), y6, y7, some (.fr (.int n)), some (.fr (eR r)), y10, y11, y12, y13] := by
  unfold st7
  have g : atI l 2 = some (gt l 2) := atI_gt (by omega)
  have m0 := Int.emod_nonneg (gt l 2) (b := 13) (by decide)
  have m1 := Int.emod_lt_of_pos (gt l 2) (b := 13) (by decide)
  simp [eI, g]
  exact h _ ⟨m0, by omega⟩
theorem s8 {l : List Int} {n : Int} {r : List Tie} {k : Int} {p : Int} {y1 y7 y10 y11 y12 y13 : Option O} (hl : l.length = 48) (hi : ∀ i ∈ l, i30 i) (hn : 1 ≤ n ∧ n ≤ 10) (hr : ROk n r) (hk : 1 ≤ k ∧ k ≤ 6) (hp : 0 ≤ p ∧ p < 100) (h : E.nx [some (.fr (eI ns)), y1, some (.fr (eI l)), some (.fr (.int k)), some (.fr (eI (layN k.toNat r))), some (.fr (eR (kept k.toNat r))), some (.fr (.int p)), some (.fr (.str (netS p k (kept k.toNat r)))), some (.fr (.int n)), some (.fr (eR r)), y10, y11, y12, y13]) : st8 E [some (.fr (eI ns)), y1, some (.fr (eI l)), some (.fr (.int k)), some (.fr (eI (layN k.toNat r))), some (.fr (eR (kept k.toNat r))), some (.fr (.int p)), y7, some (.fr (.int n)), some (.fr (eR r)), y10, y11, y12, y13] := by
  unfold st8
  have hs := hr.sub (kept_sub k.toNat r)
  have kl := recS_len (hs.bd hn) hs.hl
  have nl := numS_len (n := p) (by omega) (k := 2) (by decide) (by omega)
  have yl := numS_len (n := k) (by omega) (k := 2) (by decide) (by omega)
  simp only [numS] at nl yl
  have q1 : (Str.ofString " ").length = 1 := by decide
  have l1 := log_ok (i := p) (by omega) (by omega)
  have l2 := log_ok (i := k) (by omega) (by omega)
  have sl : ∀ m : Nat, m ≤ 20000 → m ≤ sizeLine := fun m hm => by rw [sizeLine_eq]; omega
  simp [l1, l2, len_app, q1, -Int.toString_eq_repr]
  refine ⟨sl _ (by omega), sl _ (by omega), sl _ (by omega), _, rfl, hs.bd hn, hs.hl, ?_⟩
  simp [len_app, q1, -Int.toString_eq_repr]
  exact ⟨sl _ (by omega), h⟩
theorem s9 {l : List Int} {n : Int} {r : List Tie} {k : Int} {p : Int} {y1 y10 y11 y12 y13 : Option O} (hl : l.length = 48) (hi : ∀ i ∈ l, i30 i) (hn : 1 ≤ n ∧ n ≤ 10) (hr : ROk n r) (hk : 1 ≤ k ∧ k ≤ 6) (hp : 0 ≤ p ∧ p < 100) (h : E.nx [some (.fr (eI ns)), y1, some (.fr (eI l)), some (.fr (.int k)), some (.fr (eI (layN k.toNat r))), some (.fr (eR (kept k.toNat r))), some (.fr (.int p)), some (.fr (.str (netS p k (kept k.toNat r)))), some (.fr (.int n)), some (.fr (eR r)), y10, y11, y12, y13]) : st9 E [some (.fr (eI ns)), y1, some (.fr (eI l)), some (.fr (.int k)), some (.fr (eI (layN k.toNat r))), some (.fr (eR (kept k.toNat r))), some (.fr (.int p)), some (.fr (.str (netS p k (kept k.toNat r)))), some (.fr (.int n)), some (.fr (eR r)), y10, y11, y12, y13] := by
  unfold st9
  exact rdue (n := n) (p := p) (ly := k) (s := kept k.toNat r) hn (hr.sub (kept_sub k.toNat r)) hp (by omega) rfl rfl rfl rfl h
theorem s10 {l : List Int} {n : Int} {r : List Tie} {k : Int} {p : Int} {y1 y10 y11 y12 y13 : Option O} (hl : l.length = 48) (hi : ∀ i ∈ l, i30 i) (hn : 1 ≤ n ∧ n ≤ 10) (hr : ROk n r) (hk : 1 ≤ k ∧ k ≤ 6) (hp : 0 ≤ p ∧ p < 100) (h : E.nx [some (.fr (eI ns)), y1, some (.fr (eI l)), some (.fr (.int k)), some (.fr (eI (layN k.toNat r))), some (.fr (eR (kept k.toNat r))), some (.fr (.int p)), some (.fr (.str (netS p k (kept k.toNat r)))), some (.fr (.int n)), some (.fr (eR r)), y10, y11, y12, y13]) : st10 E [some (.fr (eI ns)), y1, some (.fr (eI l)), some (.fr (.int k)), some (.fr (eI (layN k.toNat r))), some (.fr (eR (kept k.toNat r))), some (.fr (.int p)), some (.fr (.str (netS p k (kept k.toNat r)))), some (.fr (.int n)), some (.fr (eR r)), y10, y11, y12, y13] := by
  unfold st10
  have g : atI l 3 = some (gt l 3) := atI_gt (by omega)
  simp [eI, g]
  refine ⟨n, k, _, _, rfl, hn, hk, hr.sub (kept_sub k.toNat r), fun z hz => ?_⟩
  simp
  refine ⟨z, rfl, by have := hz.2; omega, ?_⟩
  rw [hz.1]
  simp
  exact h
theorem s11 {l : List Int} {n : Int} {r : List Tie} {k : Int} {p : Int} {y1 y10 y11 y12 y13 : Option O} (hl : l.length = 48) (hi : ∀ i ∈ l, i30 i) (hn : 1 ≤ n ∧ n ≤ 10) (hr : ROk n r) (hk : 1 ≤ k ∧ k ≤ 6) (hp : 0 ≤ p ∧ p < 100) (h : E.nx [some (.fr (eI ns)), y1, some (.fr (eI l)), some (.fr (.int k)), some (.fr (eI (layN k.toNat r))), some (.fr (eR (kept k.toNat r))), some (.fr (.int p)), some (.fr (.str (netS p k (kept k.toNat r)))), some (.fr (.int n)), some (.fr (eR r)), y10, y11, y12, y13]) : st11 E [some (.fr (eI ns)), y1, some (.fr (eI l)), some (.fr (.int k)), some (.fr (eI (layN k.toNat r))), some (.fr (eR (kept k.toNat r))), some (.fr (.int p)), some (.fr (.str (netS p k (kept k.toNat r)))), some (.fr (.int n)), some (.fr (eR r)), y10, y11, y12, y13] := by
  unfold st11
  have g : atI l 4 = some (gt l 4) := atI_gt (by omega)
  have hp4 := hi _ (List.mem_of_getElem? (gt_some (m := l) (a := 4) (by omega) (by omega)))
  simp [eI, g]
  refine ⟨n, k, r, _, rfl, hn, hk, hr, hr.hl, hp4.1, fun d hd => ?_⟩
  refine ⟨d, rfl, hd, ?_⟩
  simp
  exact h
theorem turn (hl : ns.length ≤ 1000) (c : Int) {E : EE} {y1 y2 y3 y4 y5 y6 y7 y8 y9 y10 y11 y12 y13 : Option O} (hx : ∀ ρ', (∃ y1 y2 y3 y4 y5 y6 y7 y8 y9 y10 y11 y12 y13, ρ' = [some (.fr (eI ns)), y1, y2, y3, y4, y5, y6, y7, y8, y9, y10, y11, y12, y13]) → E.nx ρ') : dName 1 (.fr (.int c)) [some (.fr (eI ns)), y1, y2, y3, y4, y5, y6, y7, y8, y9, y10, y11, y12, y13] (fun ρ => bdTurn E ρ) := by
  show bdTurn E [some (.fr (eI ns)), some (.fr (.int c)), y2, y3, y4, y5, y6, y7, y8, y9, y10, y11, y12, y13]
  unfold bdTurn
  refine seq_go (s1 fun l hl hi => ?_)
  refine seq_go (s2 hl hi fun n r hn hr => ?_)
  refine seq_go (s3 hl hi hn hr fun k hk => ?_)
  refine seq_go (s4 hl hi hn hr hk ?_)
  refine seq_go (s5 hl hi hn hr hk ?_)
  refine seq_go (s6 hl hi hn hr hk fun y6 y7 y10 y11 => ?_)
  refine seq_go (s7 hl hi hn hr hk fun p hp => ?_)
  refine seq_go (s8 hl hi hn hr hk hp ?_)
  refine seq_go (s9 hl hi hn hr hk hp ?_)
  refine seq_go (s10 hl hi hn hr hk hp ?_)
  refine s11 hl hi hn hr hk hp ?_
  exact hx _ ⟨_, _, _, _, _, _, _, _, _, _, _, _, _, rfl⟩
end
theorem b_law : Body bdLaw [] wLaw 1 13 := by
  rintro os q x _ ⟨ns, rfl, hl, h⟩
  refine ⟨rfl, ?_⟩
  show bdLaw _ [some (.fr (eI ns)), none, none, none, none, none, none, none, none, none, none, none, none, none]
  unfold bdLaw bd_law
  refine seq_cut (fun ρ => ∃ y1 y2 y3 y4 y5 y6 y7 y8 y9 y10 y11 y12 y13, ρ = [some (.fr (eI ns)), y1, y2, y3, y4, y5, y6, y7, y8, y9, y10, y11, y12, y13]) ?_ ?_
  · intro nx hx
    rw [dFor]
    simp only [eI]
    simp [cut10, flts_oI', ers_oI', -List.map_take]
    rw [← List.map_singleton (f := PyData.int), ← List.map_append]
    refine ⟨trivial, by rw [sizeLine_eq]; omega, by rw [sizeLine_eq]; omega, ?_⟩
    refine loop_inv PyData.int (fun _ ρ => ∃ y1 y2 y3 y4 y5 y6 y7 y8 y9 y10 y11 y12 y13, ρ = [some (.fr (eI ns)), y1, y2, y3, y4, y5, y6, y7, y8, y9, y10, y11, y12, y13]) ?_ (fun ρ h => hx ρ h) _ _ ⟨none, none, none, none, none, none, none, none, none, none, none, none, none, rfl⟩
    rintro c l ρ nx ⟨y1, y2, y3, y4, y5, y6, y7, y8, y9, y10, y11, y12, y13, rfl⟩ hx
    exact turn hl c hx
  · rintro ρ ⟨y1, y2, y3, y4, y5, y6, y7, y8, y9, y10, y11, y12, y13, rfl⟩
    simpa [eI] using h
end K57
set_option Elab.async false
set_option linter.all false
set_option maxRecDepth 100000
set_option maxHeartbeats 4000000
namespace K57
open PySem PySem.Spec PyProof.Rows L2 DL
theorem all_mk {l : PySem.W.OpenLaw} {w : World} {K : PySem.W.Frag} {h : Heap} {mg : Str → Option Value} {fa f0 f1 f2 f3 f4 f5 f6 f7 f8 f9 f10 f11 f12 f13 f14 f15 f16 f17 f18 f19 f20 f21 f22 f23 f24 f25 f26 f27 f28 f29 f30 f31 f32 f33 f34 : Addr} (X : K.In h) (G : h.Ns mainGlobals mg) (hfa : mg "law" = some (.ref fa))
    {od0 an0 od1 an1 od2 an2 od3 an3 od4 an4 od5 an5 od6 an6 od7 an7 od8 an8 od9 an9 od10 an10 od11 an11 od12 an12 od13 an13 od14 an14 od15 an15 od16 an16 od17 an17 od18 an18 od19 an19 od20 an20 od21 an21 od22 an22 od23 an23 od24 an24 od25 an25 od26 an26 od27 an27 od28 an28 od29 an29 od30 an30 od31 an31 od32 an32 od33 an33 od34 an34 : Option Addr} {sl0 sl1 sl2 sl3 sl4 sl5 sl6 sl7 sl8 sl9 sl10 sl11 sl12 sl13 sl14 sl15 sl16 sl17 sl18 sl19 sl20 sl21 sl22 sl23 sl24 sl25 sl26 sl27 sl28 sl29 sl30 sl31 sl32 sl33 sl34 : Array (Option Value)} {oc0 kV0 dc0 pm0 cd0 ct0 oc1 kV1 dc1 pm1 cd1 ct1 oc2 kV2 dc2 pm2 cd2 ct2 oc3 kV3 dc3 pm3 cd3 ct3 oc4 kV4 dc4 pm4 cd4 ct4 oc5 kV5 dc5 pm5 cd5 ct5 oc6 kV6 dc6 pm6 cd6 ct6 oc7 kV7 dc7 pm7 cd7 ct7 oc8 kV8 dc8 pm8 cd8 ct8 oc9 kV9 dc9 pm9 cd9 ct9 oc10 kV10 dc10 pm10 cd10 ct10 oc11 kV11 dc11 pm11 cd11 ct11 oc12 kV12 dc12 pm12 cd12 ct12 oc13 kV13 dc13 pm13 cd13 ct13 oc14 kV14 dc14 pm14 cd14 ct14 oc15 kV15 dc15 pm15 cd15 ct15 oc16 kV16 dc16 pm16 cd16 ct16 oc17 kV17 dc17 pm17 cd17 ct17 oc18 kV18 dc18 pm18 cd18 ct18 oc19 kV19 dc19 pm19 cd19 ct19 oc20 kV20 dc20 pm20 cd20 ct20 oc21 kV21 dc21 pm21 cd21 ct21 oc22 kV22 dc22 pm22 cd22 ct22 oc23 kV23 dc23 pm23 cd23 ct23 oc24 kV24 dc24 pm24 cd24 ct24 oc25 kV25 dc25 pm25 cd25 ct25 oc26 kV26 dc26 pm26 cd26 ct26 oc27 kV27 dc27 pm27 cd27 ct27 oc28 kV28 dc28 pm28 cd28 ct28 oc29 kV29 dc29 pm29 cd29 ct29 oc30 kV30 dc30 pm30 cd30 ct30 oc31 kV31 dc31 pm31 cd31 ct31 oc32 kV32 dc32 pm32 cd32 ct32 oc33 kV33 dc33 pm33 cd33 ct33 oc34 kV34 dc34 pm34 cd34 ct34 : Value}
    (a0 : PySem.W.nsIn K mainGlobals "is_whole" = some (some (.ref f0))) (l0 : K.lookup f0 = some ⟨oc0, od0, .func (PySem.W.fnOf "is_whole" "is_whole" (defArgs s_is_whole) (defBody s_is_whole) (defScope s_is_whole) .none kV0 dc0 pm0 an0 cd0 ct0), sl0⟩) (c0 : PySem.W.codeIn K cd0 "is_whole" = true) (k0 : PySem.W.keepIn K (.ref f0) = true)
    (a1 : PySem.W.nsIn K mainGlobals "is_many" = some (some (.ref f1))) (l1 : K.lookup f1 = some ⟨oc1, od1, .func (PySem.W.fnOf "is_many" "is_many" (defArgs s_is_many) (defBody s_is_many) (defScope s_is_many) .none kV1 dc1 pm1 an1 cd1 ct1), sl1⟩) (c1 : PySem.W.codeIn K cd1 "is_many" = true) (k1 : PySem.W.keepIn K (.ref f1) = true)
    (a2 : PySem.W.nsIn K mainGlobals "is_place" = some (some (.ref f2))) (l2 : K.lookup f2 = some ⟨oc2, od2, .func (PySem.W.fnOf "is_place" "is_place" (defArgs s_is_place) (defBody s_is_place) (defScope s_is_place) .none kV2 dc2 pm2 an2 cd2 ct2), sl2⟩) (c2 : PySem.W.codeIn K cd2 "is_place" = true) (k2 : PySem.W.keepIn K (.ref f2) = true)
    (a3 : PySem.W.nsIn K mainGlobals "is_moment" = some (some (.ref f3))) (l3 : K.lookup f3 = some ⟨oc3, od3, .func (PySem.W.fnOf "is_moment" "is_moment" (defArgs s_is_moment) (defBody s_is_moment) (defScope s_is_moment) .none kV3 dc3 pm3 an3 cd3 ct3), sl3⟩) (c3 : PySem.W.codeIn K cd3 "is_moment" = true) (k3 : PySem.W.keepIn K (.ref f3) = true)
    (a4 : PySem.W.nsIn K mainGlobals "is_meeting" = some (some (.ref f4))) (l4 : K.lookup f4 = some ⟨oc4, od4, .func (PySem.W.fnOf "is_meeting" "is_meeting" (defArgs s_is_meeting) (defBody s_is_meeting) (defScope s_is_meeting) .none kV4 dc4 pm4 an4 cd4 ct4), sl4⟩) (c4 : PySem.W.codeIn K cd4 "is_meeting" = true) (k4 : PySem.W.keepIn K (.ref f4) = true)
    (a5 : PySem.W.nsIn K mainGlobals "is_tie" = some (some (.ref f5))) (l5 : K.lookup f5 = some ⟨oc5, od5, .func (PySem.W.fnOf "is_tie" "is_tie" (defArgs s_is_tie) (defBody s_is_tie) (defScope s_is_tie) .none kV5 dc5 pm5 an5 cd5 ct5), sl5⟩) (c5 : PySem.W.codeIn K cd5 "is_tie" = true) (k5 : PySem.W.keepIn K (.ref f5) = true)
    (a6 : PySem.W.nsIn K mainGlobals "is_record" = some (some (.ref f6))) (l6 : K.lookup f6 = some ⟨oc6, od6, .func (PySem.W.fnOf "is_record" "is_record" (defArgs s_is_record) (defBody s_is_record) (defScope s_is_record) .none kV6 dc6 pm6 an6 cd6 ct6), sl6⟩) (c6 : PySem.W.codeIn K cd6 "is_record" = true) (k6 : PySem.W.keepIn K (.ref f6) = true)
    (a7 : PySem.W.nsIn K mainGlobals "joined" = some (some (.ref f7))) (l7 : K.lookup f7 = some ⟨oc7, od7, .func (PySem.W.fnOf "joined" "joined" (defArgs s_joined) (defBody s_joined) (defScope s_joined) .none kV7 dc7 pm7 an7 cd7 ct7), sl7⟩) (c7 : PySem.W.codeIn K cd7 "joined" = true) (k7 : PySem.W.keepIn K (.ref f7) = true)
    (a8 : PySem.W.nsIn K mainGlobals "is_depth" = some (some (.ref f8))) (l8 : K.lookup f8 = some ⟨oc8, od8, .func (PySem.W.fnOf "is_depth" "is_depth" (defArgs s_is_depth) (defBody s_is_depth) (defScope s_is_depth) .none kV8 dc8 pm8 an8 cd8 ct8), sl8⟩) (c8 : PySem.W.codeIn K cd8 "is_depth" = true) (k8 : PySem.W.keepIn K (.ref f8) = true)
    (a9 : PySem.W.nsIn K mainGlobals "look_at_layers" = some (some (.ref f9))) (l9 : K.lookup f9 = some ⟨oc9, od9, .func (PySem.W.fnOf "look_at_layers" "look_at_layers" (defArgs s_look_at_layers) (defBody s_look_at_layers) (defScope s_look_at_layers) .none kV9 dc9 pm9 an9 cd9 ct9), sl9⟩) (c9 : PySem.W.codeIn K cd9 "look_at_layers" = true) (k9 : PySem.W.keepIn K (.ref f9) = true)
    (a10 : PySem.W.nsIn K mainGlobals "layer_for" = some (some (.ref f10))) (l10 : K.lookup f10 = some ⟨oc10, od10, .func (PySem.W.fnOf "layer_for" "layer_for" (defArgs s_layer_for) (defBody s_layer_for) (defScope s_layer_for) .none kV10 dc10 pm10 an10 cd10 ct10), sl10⟩) (c10 : PySem.W.codeIn K cd10 "layer_for" = true) (k10 : PySem.W.keepIn K (.ref f10) = true)
    (a11 : PySem.W.nsIn K mainGlobals "layered" = some (some (.ref f11))) (l11 : K.lookup f11 = some ⟨oc11, od11, .func (PySem.W.fnOf "layered" "layered" (defArgs s_layered) (defBody s_layered) (defScope s_layered) .none kV11 dc11 pm11 an11 cd11 ct11), sl11⟩) (c11 : PySem.W.codeIn K cd11 "layered" = true) (k11 : PySem.W.keepIn K (.ref f11) = true)
    (a12 : PySem.W.nsIn K mainGlobals "is_count" = some (some (.ref f12))) (l12 : K.lookup f12 = some ⟨oc12, od12, .func (PySem.W.fnOf "is_count" "is_count" (defArgs s_is_count) (defBody s_is_count) (defScope s_is_count) .none kV12 dc12 pm12 an12 cd12 ct12), sl12⟩) (c12 : PySem.W.codeIn K cd12 "is_count" = true) (k12 : PySem.W.keepIn K (.ref f12) = true)
    (a13 : PySem.W.nsIn K mainGlobals "is_net" = some (some (.ref f13))) (l13 : K.lookup f13 = some ⟨oc13, od13, .func (PySem.W.fnOf "is_net" "is_net" (defArgs s_is_net) (defBody s_is_net) (defScope s_is_net) .none kV13 dc13 pm13 an13 cd13 ct13), sl13⟩) (c13 : PySem.W.codeIn K cd13 "is_net" = true) (k13 : PySem.W.keepIn K (.ref f13) = true)
    (a14 : PySem.W.nsIn K mainGlobals "tie_text" = some (some (.ref f14))) (l14 : K.lookup f14 = some ⟨oc14, od14, .func (PySem.W.fnOf "tie_text" "tie_text" (defArgs s_tie_text) (defBody s_tie_text) (defScope s_tie_text) .none kV14 dc14 pm14 an14 cd14 ct14), sl14⟩) (c14 : PySem.W.codeIn K cd14 "tie_text" = true) (k14 : PySem.W.keepIn K (.ref f14) = true)
    (a15 : PySem.W.nsIn K mainGlobals "record_text" = some (some (.ref f15))) (l15 : K.lookup f15 = some ⟨oc15, od15, .func (PySem.W.fnOf "record_text" "record_text" (defArgs s_record_text) (defBody s_record_text) (defScope s_record_text) .none kV15 dc15 pm15 an15 cd15 ct15), sl15⟩) (c15 : PySem.W.codeIn K cd15 "record_text" = true) (k15 : PySem.W.keepIn K (.ref f15) = true)
    (a16 : PySem.W.nsIn K mainGlobals "net_text" = some (some (.ref f16))) (l16 : K.lookup f16 = some ⟨oc16, od16, .func (PySem.W.fnOf "net_text" "net_text" (defArgs s_net_text) (defBody s_net_text) (defScope s_net_text) .none kV16 dc16 pm16 an16 cd16 ct16), sl16⟩) (c16 : PySem.W.codeIn K cd16 "net_text" = true) (k16 : PySem.W.keepIn K (.ref f16) = true)
    (a17 : PySem.W.nsIn K mainGlobals "number_in" = some (some (.ref f17))) (l17 : K.lookup f17 = some ⟨oc17, od17, .func (PySem.W.fnOf "number_in" "number_in" (defArgs s_number_in) (defBody s_number_in) (defScope s_number_in) .none kV17 dc17 pm17 an17 cd17 ct17), sl17⟩) (c17 : PySem.W.codeIn K cd17 "number_in" = true) (k17 : PySem.W.keepIn K (.ref f17) = true)
    (a18 : PySem.W.nsIn K mainGlobals "tie_in" = some (some (.ref f18))) (l18 : K.lookup f18 = some ⟨oc18, od18, .func (PySem.W.fnOf "tie_in" "tie_in" (defArgs s_tie_in) (defBody s_tie_in) (defScope s_tie_in) .none kV18 dc18 pm18 an18 cd18 ct18), sl18⟩) (c18 : PySem.W.codeIn K cd18 "tie_in" = true) (k18 : PySem.W.keepIn K (.ref f18) = true)
    (a19 : PySem.W.nsIn K mainGlobals "read_record" = some (some (.ref f19))) (l19 : K.lookup f19 = some ⟨oc19, od19, .func (PySem.W.fnOf "read_record" "read_record" (defArgs s_read_record) (defBody s_read_record) (defScope s_read_record) .none kV19 dc19 pm19 an19 cd19 ct19), sl19⟩) (c19 : PySem.W.codeIn K cd19 "read_record" = true) (k19 : PySem.W.keepIn K (.ref f19) = true)
    (a20 : PySem.W.nsIn K mainGlobals "read_net" = some (some (.ref f20))) (l20 : K.lookup f20 = some ⟨oc20, od20, .func (PySem.W.fnOf "read_net" "read_net" (defArgs s_read_net) (defBody s_read_net) (defScope s_read_net) .none kV20 dc20 pm20 an20 cd20 ct20), sl20⟩) (c20 : PySem.W.codeIn K cd20 "read_net" = true) (k20 : PySem.W.keepIn K (.ref f20) = true)
    (a21 : PySem.W.nsIn K mainGlobals "_law_mixed" = some (some (.ref f21))) (l21 : K.lookup f21 = some ⟨oc21, od21, .func (PySem.W.fnOf "_law_mixed" "_law_mixed" (defArgs s__law_mixed) (defBody s__law_mixed) (defScope s__law_mixed) .none kV21 dc21 pm21 an21 cd21 ct21), sl21⟩) (c21 : PySem.W.codeIn K cd21 "_law_mixed" = true) (k21 : PySem.W.keepIn K (.ref f21) = true)
    (a22 : PySem.W.nsIn K mainGlobals "_law_numbers" = some (some (.ref f22))) (l22 : K.lookup f22 = some ⟨oc22, od22, .func (PySem.W.fnOf "_law_numbers" "_law_numbers" (defArgs s__law_numbers) (defBody s__law_numbers) (defScope s__law_numbers) .none kV22 dc22 pm22 an22 cd22 ct22), sl22⟩) (c22 : PySem.W.codeIn K cd22 "_law_numbers" = true) (k22 : PySem.W.keepIn K (.ref f22) = true)
    (a23 : PySem.W.nsIn K mainGlobals "_law_ends" = some (some (.ref f23))) (l23 : K.lookup f23 = some ⟨oc23, od23, .func (PySem.W.fnOf "_law_ends" "_law_ends" (defArgs s__law_ends) (defBody s__law_ends) (defScope s__law_ends) .none kV23 dc23 pm23 an23 cd23 ct23), sl23⟩) (c23 : PySem.W.codeIn K cd23 "_law_ends" = true) (k23 : PySem.W.keepIn K (.ref f23) = true)
    (a24 : PySem.W.nsIn K mainGlobals "_law_record" = some (some (.ref f24))) (l24 : K.lookup f24 = some ⟨oc24, od24, .func (PySem.W.fnOf "_law_record" "_law_record" (defArgs s__law_record) (defBody s__law_record) (defScope s__law_record) .none kV24 dc24 pm24 an24 cd24 ct24), sl24⟩) (c24 : PySem.W.codeIn K cd24 "_law_record" = true) (k24 : PySem.W.keepIn K (.ref f24) = true)
    (a25 : PySem.W.nsIn K mainGlobals "_law_depth" = some (some (.ref f25))) (l25 : K.lookup f25 = some ⟨oc25, od25, .func (PySem.W.fnOf "_law_depth" "_law_depth" (defArgs s__law_depth) (defBody s__law_depth) (defScope s__law_depth) .none kV25 dc25 pm25 an25 cd25 ct25), sl25⟩) (c25 : PySem.W.codeIn K cd25 "_law_depth" = true) (k25 : PySem.W.keepIn K (.ref f25) = true)
    (a26 : PySem.W.nsIn K mainGlobals "_law_joined" = some (some (.ref f26))) (l26 : K.lookup f26 = some ⟨oc26, od26, .func (PySem.W.fnOf "_law_joined" "_law_joined" (defArgs s__law_joined) (defBody s__law_joined) (defScope s__law_joined) .none kV26 dc26 pm26 an26 cd26 ct26), sl26⟩) (c26 : PySem.W.codeIn K cd26 "_law_joined" = true) (k26 : PySem.W.keepIn K (.ref f26) = true)
    (a27 : PySem.W.nsIn K mainGlobals "_law_numbered" = some (some (.ref f27))) (l27 : K.lookup f27 = some ⟨oc27, od27, .func (PySem.W.fnOf "_law_numbered" "_law_numbered" (defArgs s__law_numbered) (defBody s__law_numbered) (defScope s__law_numbered) .none kV27 dc27 pm27 an27 cd27 ct27), sl27⟩) (c27 : PySem.W.codeIn K cd27 "_law_numbered" = true) (k27 : PySem.W.keepIn K (.ref f27) = true)
    (a28 : PySem.W.nsIn K mainGlobals "_law_text" = some (some (.ref f28))) (l28 : K.lookup f28 = some ⟨oc28, od28, .func (PySem.W.fnOf "_law_text" "_law_text" (defArgs s__law_text) (defBody s__law_text) (defScope s__law_text) .none kV28 dc28 pm28 an28 cd28 ct28), sl28⟩) (c28 : PySem.W.codeIn K cd28 "_law_text" = true) (k28 : PySem.W.keepIn K (.ref f28) = true)
    (a29 : PySem.W.nsIn K mainGlobals "_law_read" = some (some (.ref f29))) (l29 : K.lookup f29 = some ⟨oc29, od29, .func (PySem.W.fnOf "_law_read" "_law_read" (defArgs s__law_read) (defBody s__law_read) (defScope s__law_read) .none kV29 dc29 pm29 an29 cd29 ct29), sl29⟩) (c29 : PySem.W.codeIn K cd29 "_law_read" = true) (k29 : PySem.W.keepIn K (.ref f29) = true)
    (a30 : PySem.W.nsIn K mainGlobals "_law_due" = some (some (.ref f30))) (l30 : K.lookup f30 = some ⟨oc30, od30, .func (PySem.W.fnOf "_law_due" "_law_due" (defArgs s__law_due) (defBody s__law_due) (defScope s__law_due) .none kV30 dc30 pm30 an30 cd30 ct30), sl30⟩) (c30 : PySem.W.codeIn K cd30 "_law_due" = true) (k30 : PySem.W.keepIn K (.ref f30) = true)
    (a31 : PySem.W.nsIn K mainGlobals "_law_bad" = some (some (.ref f31))) (l31 : K.lookup f31 = some ⟨oc31, od31, .func (PySem.W.fnOf "_law_bad" "_law_bad" (defArgs s__law_bad) (defBody s__law_bad) (defScope s__law_bad) .none kV31 dc31 pm31 an31 cd31 ct31), sl31⟩) (c31 : PySem.W.codeIn K cd31 "_law_bad" = true) (k31 : PySem.W.keepIn K (.ref f31) = true)
    (a32 : PySem.W.nsIn K mainGlobals "_law_no_net" = some (some (.ref f32))) (l32 : K.lookup f32 = some ⟨oc32, od32, .func (PySem.W.fnOf "_law_no_net" "_law_no_net" (defArgs s__law_no_net) (defBody s__law_no_net) (defScope s__law_no_net) .none kV32 dc32 pm32 an32 cd32 ct32), sl32⟩) (c32 : PySem.W.codeIn K cd32 "_law_no_net" = true) (k32 : PySem.W.keepIn K (.ref f32) = true)
    (a33 : PySem.W.nsIn K mainGlobals "_law_unwritten" = some (some (.ref f33))) (l33 : K.lookup f33 = some ⟨oc33, od33, .func (PySem.W.fnOf "_law_unwritten" "_law_unwritten" (defArgs s__law_unwritten) (defBody s__law_unwritten) (defScope s__law_unwritten) .none kV33 dc33 pm33 an33 cd33 ct33), sl33⟩) (c33 : PySem.W.codeIn K cd33 "_law_unwritten" = true) (k33 : PySem.W.keepIn K (.ref f33) = true)
    (a34 : PySem.W.nsIn K mainGlobals "law" = some (some (.ref f34))) (l34 : K.lookup f34 = some ⟨oc34, od34, .func (PySem.W.fnOf "law" "law" (defArgs s_law) (defBody s_law) (defScope s_law) .none kV34 dc34 pm34 an34 cd34 ct34), sl34⟩) (c34 : PySem.W.codeIn K cd34 "law" = true) (k34 : PySem.W.keepIn K (.ref f34) = true)
    (z_ValueError : PySem.W.nsIn K mainGlobals "ValueError" = some none)
    (z_all : PySem.W.nsIn K mainGlobals "all" = some none)
    (z_bool : PySem.W.nsIn K mainGlobals "bool" = some none)
    (z_enumerate : PySem.W.nsIn K mainGlobals "enumerate" = some none)
    (z_int : PySem.W.nsIn K mainGlobals "int" = some none)
    (z_isinstance : PySem.W.nsIn K mainGlobals "isinstance" = some none)
    (z_len : PySem.W.nsIn K mainGlobals "len" = some none)
    (z_list : PySem.W.nsIn K mainGlobals "list" = some none)
    (z_max : PySem.W.nsIn K mainGlobals "max" = some none)
    (z_min : PySem.W.nsIn K mainGlobals "min" = some none)
    (z_range : PySem.W.nsIn K mainGlobals "range" = some none)
    (z_reversed : PySem.W.nsIn K mainGlobals "reversed" = some none)
    (z_str : PySem.W.nsIn K mainGlobals "str" = some none)
    (z_tuple : PySem.W.nsIn K mainGlobals "tuple" = some none)
    (z_zip : PySem.W.nsIn K mainGlobals "zip" = some none)
    {t_FIGURES : _} (y_FIGURES : PySem.W.nsIn K mainGlobals "FIGURES" = some (some (.str "0123456789" t_FIGURES)))
    {t_LAST_MOMENT : _} (y_LAST_MOMENT : PySem.W.nsIn K mainGlobals "LAST_MOMENT" = some (some (.int 1000000000000000000000000000000 t_LAST_MOMENT)))
    {t_MOST_FIGURES : _} (y_MOST_FIGURES : PySem.W.nsIn K mainGlobals "MOST_FIGURES" = some (some (.int 60 t_MOST_FIGURES)))
    {t_MOST_LAYERS_layers : _} (y_MOST_LAYERS_layers : PySem.W.nsIn K mainGlobals "MOST_LAYERS_layers" = some (some (.int 6 t_MOST_LAYERS_layers)))
    {t_MOST_LAYERS_nets : _} (y_MOST_LAYERS_nets : PySem.W.nsIn K mainGlobals "MOST_LAYERS_nets" = some (some (.int 6 t_MOST_LAYERS_nets)))
    {t_MOST_PLACES_nets : _} (y_MOST_PLACES_nets : PySem.W.nsIn K mainGlobals "MOST_PLACES_nets" = some (some (.int 10 t_MOST_PLACES_nets)))
    {t_MOST_PLACES_records : _} (y_MOST_PLACES_records : PySem.W.nsIn K mainGlobals "MOST_PLACES_records" = some (some (.int 10 t_MOST_PLACES_records)))
    {t_MOST_TIES : _} (y_MOST_TIES : PySem.W.nsIn K mainGlobals "MOST_TIES" = some (some (.int 60 t_MOST_TIES)))
    {t_NOTHING : _} (y_NOTHING : PySem.W.nsIn K mainGlobals "NOTHING" = some (some (.str "none" t_NOTHING)))
    {C_NoNet : Addr} (g_NoNet : PySem.W.nsIn K mainGlobals "NoNet" = some (some (.ref C_NoNet)))
    {C_NoText : Addr} (g_NoText : PySem.W.nsIn K mainGlobals "NoText" = some (some (.ref C_NoText)))
    {C_PlyError : Addr} (g_PlyError : PySem.W.nsIn K mainGlobals "PlyError" = some (some (.ref C_PlyError)))
    {C_Clash : Addr} (g_Clash : PySem.W.nsIn K mainGlobals "Clash" = some (some (.ref C_Clash)))
    {C_NoLayers : Addr} (g_NoLayers : PySem.W.nsIn K mainGlobals "NoLayers" = some (some (.ref C_NoLayers)))
    {C_NoPlaces : Addr} (g_NoPlaces : PySem.W.nsIn K mainGlobals "NoPlaces" = some (some (.ref C_NoPlaces)))
    {C_NoTies : Addr} (g_NoTies : PySem.W.nsIn K mainGlobals "NoTies" = some (some (.ref C_NoTies)))
    (x_NoNet : PySem.W.excIn K C_NoNet [.type "ValueError", .type "Exception", .type "BaseException", .type "object"] "ValueError.__new__" = true) (p_NoNet : PySem.W.keepIn K (.ref C_NoNet) = true) (b_NoNet : PySem.W.subIn K (.ref C_NoNet) (.type "BaseException") = some true) (u_NoNet : PySem.W.typeIn K (.ref C_NoNet) = some (.type "type"))
    (x_NoText : PySem.W.excIn K C_NoText [.type "ValueError", .type "Exception", .type "BaseException", .type "object"] "ValueError.__new__" = true) (p_NoText : PySem.W.keepIn K (.ref C_NoText) = true) (b_NoText : PySem.W.subIn K (.ref C_NoText) (.type "BaseException") = some true) (u_NoText : PySem.W.typeIn K (.ref C_NoText) = some (.type "type"))
    (e5 : PySem.W.specialIn K (.builtin "object.__class__") "__get__" = some (some (.builtin "getset_descriptor.__get__")))
    (e6 : PySem.W.takesIn K (.builtin "object.__class__") = some true)
    (s3 : PySem.W.subIn K (.ref C_PlyError) (.type "BaseException") = some true)
    (s4 : PySem.W.hasDictIn K C_PlyError = true)
    (s5 : PySem.W.typeIn K (.ref C_PlyError) = some (.type "type"))
    (i_Clash : PySem.W.isClsIn K C_Clash = true)
    (t_Clash : PySem.W.typeIn K (.ref C_Clash) = some (.type "type"))
    (i_NoLayers : PySem.W.isClsIn K C_NoLayers = true)
    (t_NoLayers : PySem.W.typeIn K (.ref C_NoLayers) = some (.type "type"))
    (i_NoNet : PySem.W.isClsIn K C_NoNet = true)
    (t_NoNet : PySem.W.typeIn K (.ref C_NoNet) = some (.type "type"))
    (i_NoPlaces : PySem.W.isClsIn K C_NoPlaces = true)
    (t_NoPlaces : PySem.W.typeIn K (.ref C_NoPlaces) = some (.type "type"))
    (i_NoText : PySem.W.isClsIn K C_NoText = true)
    (t_NoText : PySem.W.typeIn K (.ref C_NoText) = some (.type "type"))
    (i_NoTies : PySem.W.isClsIn K C_NoTies = true)
    (t_NoTies : PySem.W.typeIn K (.ref C_NoTies) = some (.type "type"))
    (p1 : PySem.W.findIn K (.ref C_NoText) "__getattribute__" = some (some (.builtin "BaseException.__getattribute__")))
    (p2 : PySem.W.findIn K (.ref C_NoText) "__getattr__" = some none)
    (p3 : PySem.W.hasDictIn K C_NoText = true)
    (p4 : PySem.W.findIn K (.ref C_NoText) "__class__" = some (some (.builtin "object.__class__")))
    (p7 : PySem.W.mroIn K C_NoText (.type "object") = some true)
    (ps0 : PySem.W.subIn K (.ref C_NoText) (.ref C_NoText) = some true)
    (ps1 : PySem.W.subIn K (.ref C_NoText) (.type "ValueError") = some true)
    (ps2 : PySem.W.subIn K (.ref C_NoText) (.ref C_PlyError) = some true)
    (pn_Clash : PySem.W.subIn K (.ref C_NoText) (.ref C_Clash) = some false)
    (pn_NoLayers : PySem.W.subIn K (.ref C_NoText) (.ref C_NoLayers) = some false)
    (pn_NoNet : PySem.W.subIn K (.ref C_NoText) (.ref C_NoNet) = some false)
    (pn_NoPlaces : PySem.W.subIn K (.ref C_NoText) (.ref C_NoPlaces) = some false)
    (pn_NoTies : PySem.W.subIn K (.ref C_NoText) (.ref C_NoTies) = some false)
    (q1 : PySem.W.findIn K (.ref C_NoNet) "__getattribute__" = some (some (.builtin "BaseException.__getattribute__")))
    (q2 : PySem.W.findIn K (.ref C_NoNet) "__getattr__" = some none)
    (q3 : PySem.W.hasDictIn K C_NoNet = true)
    (q4 : PySem.W.findIn K (.ref C_NoNet) "__class__" = some (some (.builtin "object.__class__")))
    (q7 : PySem.W.mroIn K C_NoNet (.type "object") = some true)
    (qs0 : PySem.W.subIn K (.ref C_NoNet) (.ref C_NoNet) = some true)
    (qs1 : PySem.W.subIn K (.ref C_NoNet) (.type "ValueError") = some true)
    (qs2 : PySem.W.subIn K (.ref C_NoNet) (.ref C_PlyError) = some true)
    (qn_Clash : PySem.W.subIn K (.ref C_NoNet) (.ref C_Clash) = some false)
    (qn_NoLayers : PySem.W.subIn K (.ref C_NoNet) (.ref C_NoLayers) = some false)
    (qn_NoPlaces : PySem.W.subIn K (.ref C_NoNet) (.ref C_NoPlaces) = some false)
    (qn_NoText : PySem.W.subIn K (.ref C_NoNet) (.ref C_NoText) = some false)
    (qn_NoTies : PySem.W.subIn K (.ref C_NoNet) (.ref C_NoTies) = some false)
    : ∃ fd : FuncData, (∀ (s : Shared) (v : Value), BindsTo s fd ⟨[v], []⟩ [("script", v)]) ∧ ∀ base : Heap, K.In base → base.Ns mainGlobals mg → FnOk l.prog w K mg base CX0 9 fa fd ["script"] (spO K 1 wLaw) := by
  have e := hfa.symm.trans (PySem.W.mg_of X G a34)
  cases e
  have B : Blt mg := ⟨PySem.W.mg_none_of X G z_ValueError, PySem.W.mg_none_of X G z_all, PySem.W.mg_none_of X G z_bool, PySem.W.mg_none_of X G z_enumerate, PySem.W.mg_none_of X G z_int, PySem.W.mg_none_of X G z_isinstance, PySem.W.mg_none_of X G z_len, PySem.W.mg_none_of X G z_list, PySem.W.mg_none_of X G z_max, PySem.W.mg_none_of X G z_min, PySem.W.mg_none_of X G z_range, PySem.W.mg_none_of X G z_reversed, PySem.W.mg_none_of X G z_str, PySem.W.mg_none_of X G z_tuple, PySem.W.mg_none_of X G z_zip⟩
  have C : Cst mg := ⟨⟨_, PySem.W.mg_of X G y_FIGURES⟩, ⟨_, PySem.W.mg_of X G y_LAST_MOMENT⟩, ⟨_, PySem.W.mg_of X G y_MOST_FIGURES⟩, ⟨_, PySem.W.mg_of X G y_MOST_LAYERS_layers⟩, ⟨_, PySem.W.mg_of X G y_MOST_LAYERS_nets⟩, ⟨_, PySem.W.mg_of X G y_MOST_PLACES_nets⟩, ⟨_, PySem.W.mg_of X G y_MOST_PLACES_records⟩, ⟨_, PySem.W.mg_of X G y_MOST_TIES⟩, ⟨_, PySem.W.mg_of X G y_NOTHING⟩⟩
  have X_NoNet : ExcOk K mg "NoNet" C_NoNet := ⟨PySem.W.mg_of X G g_NoNet, x_NoNet, p_NoNet, b_NoNet, u_NoNet⟩
  have X_NoText : ExcOk K mg "NoText" C_NoText := ⟨PySem.W.mg_of X G g_NoText, x_NoText, p_NoText, b_NoText, u_NoText⟩
  have G_PlyError : mg "PlyError" = some (.ref C_PlyError) := PySem.W.mg_of X G g_PlyError
  have G_NoText : mg "NoText" = some (.ref C_NoText) := PySem.W.mg_of X G g_NoText
  have G_Clash : mg "Clash" = some (.ref C_Clash) := PySem.W.mg_of X G g_Clash
  have G_NoLayers : mg "NoLayers" = some (.ref C_NoLayers) := PySem.W.mg_of X G g_NoLayers
  have G_NoNet : mg "NoNet" = some (.ref C_NoNet) := PySem.W.mg_of X G g_NoNet
  have G_NoPlaces : mg "NoPlaces" = some (.ref C_NoPlaces) := PySem.W.mg_of X G g_NoPlaces
  have G_NoTies : mg "NoTies" = some (.ref C_NoTies) := PySem.W.mg_of X G g_NoTies
  have T : Cl K C_PlyError C_NoText C_Clash C_NoLayers C_NoNet C_NoPlaces C_NoTies := ⟨PySem.W.exm_ref s3 s4 s5 ps2, ⟨p1, p2, b_NoText, p3, p4, e5, e6, p7⟩, kit_self, (kit_cons (kit_no ps0 pn_Clash i_Clash t_Clash) (kit_cons (kit_no ps0 pn_NoLayers i_NoLayers t_NoLayers) (kit_cons (kit_no ps0 pn_NoNet i_NoNet t_NoNet) (kit_cons (kit_no ps0 pn_NoPlaces i_NoPlaces t_NoPlaces) (kit_cons (kit_no ps0 pn_NoTies i_NoTies t_NoTies) kit_nil)))))⟩
  have T2 : Cl2 K C_PlyError C_NoNet C_Clash C_NoLayers C_NoPlaces C_NoText C_NoTies := ⟨PySem.W.exm_ref s3 s4 s5 qs2, ⟨q1, q2, b_NoNet, q3, q4, e5, e6, q7⟩, kit_self, kit_ve qs1, (kit_cons (kit_no qs0 qn_Clash i_Clash t_Clash) (kit_cons (kit_no qs0 qn_NoLayers i_NoLayers t_NoLayers) (kit_cons (kit_no qs0 qn_NoPlaces i_NoPlaces t_NoPlaces) (kit_cons (kit_no qs0 qn_NoText i_NoText t_NoText) (kit_cons (kit_no qs0 qn_NoTies i_NoTies t_NoTies) kit_nil)))))⟩
  refine ⟨PySem.W.fnOf "law" "law" (defArgs s_law) (defBody s_law) (defScope s_law) .none kV34 dc34 pm34 an34 cd34 ct34, fun s v => .of_eq rfl, fun base _ _ => ?_⟩
  have D_is_whole : FunD K mg "is_whole" s_is_whole ["thing"] := ⟨_, _, fun_mk (st := s_is_whole) l0 c0 k0, (fun_mk (st := s_is_whole) l0 c0 k0).binds fun _ _ _ _ _ _ us hl => match us, hl with | [_], _ => rfl, PySem.W.mg_of X G a0⟩
  have C_is_whole := ok_is_whole (P := l.prog) (w := w) (base := base) B C D_is_whole (w_is_whole := wB1 isWh) (fun _ _ _ h => h) b_is_whole
  have D_is_many : FunD K mg "is_many" s_is_many ["thing"] := ⟨_, _, fun_mk (st := s_is_many) l1 c1 k1, (fun_mk (st := s_is_many) l1 c1 k1).binds fun _ _ _ _ _ _ us hl => match us, hl with | [_], _ => rfl, PySem.W.mg_of X G a1⟩
  have C_is_many := ok_is_many (P := l.prog) (w := w) (base := base) B C D_is_many C_is_whole (w_is_many := wB1 isMany) (fun _ _ _ h => h) b_is_many
  have D_is_place : FunD K mg "is_place" s_is_place ["n", "thing"] := ⟨_, _, fun_mk (st := s_is_place) l2 c2 k2, (fun_mk (st := s_is_place) l2 c2 k2).binds fun _ _ _ _ _ _ us hl => match us, hl with | [_, _], _ => rfl, PySem.W.mg_of X G a2⟩
  have C_is_place := ok_is_place (P := l.prog) (w := w) (base := base) B C D_is_place C_is_whole (w_is_place := wB2 isPl) (fun _ _ _ h => h) b_is_place
  have D_is_moment : FunD K mg "is_moment" s_is_moment ["thing"] := ⟨_, _, fun_mk (st := s_is_moment) l3 c3 k3, (fun_mk (st := s_is_moment) l3 c3 k3).binds fun _ _ _ _ _ _ us hl => match us, hl with | [_], _ => rfl, PySem.W.mg_of X G a3⟩
  have C_is_moment := ok_is_moment (P := l.prog) (w := w) (base := base) B C D_is_moment C_is_whole (w_is_moment := wB1 isMom) (fun _ _ _ h => h) b_is_moment
  have D_is_meeting : FunD K mg "is_meeting" s_is_meeting ["n", "thing"] := ⟨_, _, fun_mk (st := s_is_meeting) l4 c4 k4, (fun_mk (st := s_is_meeting) l4 c4 k4).binds fun _ _ _ _ _ _ us hl => match us, hl with | [_, _], _ => rfl, PySem.W.mg_of X G a4⟩
  have C_is_meeting := ok_is_meeting (P := l.prog) (w := w) (base := base) B C D_is_meeting C_is_moment C_is_place (w_is_meeting := wB2 isMeet) (fun _ _ _ h => h) b_is_meeting
  have D_is_tie : FunD K mg "is_tie" s_is_tie ["n", "thing"] := ⟨_, _, fun_mk (st := s_is_tie) l5 c5 k5, (fun_mk (st := s_is_tie) l5 c5 k5).binds fun _ _ _ _ _ _ us hl => match us, hl with | [_, _], _ => rfl, PySem.W.mg_of X G a5⟩
  have C_is_tie := ok_is_tie (P := l.prog) (w := w) (base := base) B C D_is_tie C_is_meeting (w_is_tie := wB2 isTie) (fun _ _ _ h => h) b_is_tie
  have D_is_record : FunD K mg "is_record" s_is_record ["n", "thing"] := ⟨_, _, fun_mk (st := s_is_record) l6 c6 k6, (fun_mk (st := s_is_record) l6 c6 k6).binds fun _ _ _ _ _ _ us hl => match us, hl with | [_, _], _ => rfl, PySem.W.mg_of X G a6⟩
  have C_is_record := ok_is_record (P := l.prog) (w := w) (base := base) B C D_is_record C_is_tie (w_is_record := wB2 isRec) (fun _ _ _ h => h) b_is_record
  have D_joined : FunD K mg "joined" s_joined ["marks", "a", "b"] := ⟨_, _, fun_mk (st := s_joined) l7 c7 k7, (fun_mk (st := s_joined) l7 c7 k7).binds fun _ _ _ _ _ _ us hl => match us, hl with | [_, _, _], _ => rfl, PySem.W.mg_of X G a7⟩
  have C_joined := ok_joined (P := l.prog) (w := w) (base := base) B C D_joined (w_joined := wJoin) (fun _ _ _ h => h) b_joined
  have D_is_depth : FunD K mg "is_depth" s_is_depth ["thing"] := ⟨_, _, fun_mk (st := s_is_depth) l8 c8 k8, (fun_mk (st := s_is_depth) l8 c8 k8).binds fun _ _ _ _ _ _ us hl => match us, hl with | [_], _ => rfl, PySem.W.mg_of X G a8⟩
  have C_is_depth := ok_is_depth (P := l.prog) (w := w) (base := base) B C D_is_depth C_is_whole (w_is_depth := wB1 isDep) (fun _ _ _ h => h) b_is_depth
  have D_look_at_layers : FunD K mg "look_at_layers" s_look_at_layers ["k"] := ⟨_, _, fun_mk (st := s_look_at_layers) l9 c9 k9, (fun_mk (st := s_look_at_layers) l9 c9 k9).binds fun _ _ _ _ _ _ us hl => match us, hl with | [_], _ => rfl, PySem.W.mg_of X G a9⟩
  have C_look_at_layers := ok_look_at_layers (P := l.prog) (w := w) (base := base) B C D_look_at_layers C_is_depth (w_look_at_layers := wLook) (fun _ _ _ h => h) b_look
  have D_layer_for : FunD K mg "layer_for" s_layer_for ["marks", "a", "b"] := ⟨_, _, fun_mk (st := s_layer_for) l10 c10 k10, (fun_mk (st := s_layer_for) l10 c10 k10).binds fun _ _ _ _ _ _ us hl => match us, hl with | [_, _, _], _ => rfl, PySem.W.mg_of X G a10⟩
  have C_layer_for := ok_layer_for (P := l.prog) (w := w) (base := base) B C D_layer_for (w_layer_for := wLF) (fun _ _ _ h => h) b_layer_for
  have D_layered : FunD K mg "layered" s_layered ["n", "record", "k"] := ⟨_, _, fun_mk (st := s_layered) l11 c11 k11, (fun_mk (st := s_layered) l11 c11 k11).binds fun _ _ _ _ _ _ us hl => match us, hl with | [_, _, _], _ => rfl, PySem.W.mg_of X G a11⟩
  have C_layered := ok_layered (P := l.prog) (w := w) (base := base) B C D_layered C_look_at_layers C_layer_for C_joined (w_layered := wLay) (fun _ _ _ h => h) b_layered
  have D_is_count : FunD K mg "is_count" s_is_count ["thing", "most"] := ⟨_, _, fun_mk (st := s_is_count) l12 c12 k12, (fun_mk (st := s_is_count) l12 c12 k12).binds fun _ _ _ _ _ _ us hl => match us, hl with | [_, _], _ => rfl, PySem.W.mg_of X G a12⟩
  have C_is_count := ok_is_count (P := l.prog) (w := w) (base := base) B C D_is_count (w_is_count := wCnt) (fun _ _ _ h => h) b_is_count
  have D_is_net : FunD K mg "is_net" s_is_net ["thing"] := ⟨_, _, fun_mk (st := s_is_net) l13 c13 k13, (fun_mk (st := s_is_net) l13 c13 k13).binds fun _ _ _ _ _ _ us hl => match us, hl with | [_], _ => rfl, PySem.W.mg_of X G a13⟩
  have C_is_net := ok_is_net (P := l.prog) (w := w) (base := base) B C D_is_net C_is_count C_is_record C_layered (w_is_net := wNet) (fun _ _ _ h => h) b_is_net
  have D_tie_text : FunD K mg "tie_text" s_tie_text ["tie"] := ⟨_, _, fun_mk (st := s_tie_text) l14 c14 k14, (fun_mk (st := s_tie_text) l14 c14 k14).binds fun _ _ _ _ _ _ us hl => match us, hl with | [_], _ => rfl, PySem.W.mg_of X G a14⟩
  have C_tie_text := ok_tie_text (P := l.prog) (w := w) (base := base) B C D_tie_text (w_tie_text := wTT) (fun _ _ _ h => h) b_tie_text
  have D_record_text : FunD K mg "record_text" s_record_text ["record"] := ⟨_, _, fun_mk (st := s_record_text) l15 c15 k15, (fun_mk (st := s_record_text) l15 c15 k15).binds fun _ _ _ _ _ _ us hl => match us, hl with | [_], _ => rfl, PySem.W.mg_of X G a15⟩
  have C_record_text := ok_record_text (P := l.prog) (w := w) (base := base) B C D_record_text C_tie_text (w_record_text := wRT) (fun _ _ _ h => h) b_record_text
  have D_net_text : FunD K mg "net_text" s_net_text ["net"] := ⟨_, _, fun_mk (st := s_net_text) l16 c16 k16, (fun_mk (st := s_net_text) l16 c16 k16).binds fun _ _ _ _ _ _ us hl => match us, hl with | [_], _ => rfl, PySem.W.mg_of X G a16⟩
  have C_net_text := ok_net_text (P := l.prog) (w := w) (base := base) B C D_net_text X_NoNet C_is_net C_record_text (w_net_text := wNT C_NoNet)  b_net_text
  have D_number_in : FunD K mg "number_in" s_number_in ["text"] := ⟨_, _, fun_mk (st := s_number_in) l17 c17 k17, (fun_mk (st := s_number_in) l17 c17 k17).binds fun _ _ _ _ _ _ us hl => match us, hl with | [_], _ => rfl, PySem.W.mg_of X G a17⟩
  have C_number_in := ok_number_in (P := l.prog) (w := w) (base := base) B C D_number_in X_NoText (w_number_in := wNI C_NoText)  b_number_in
  have D_tie_in : FunD K mg "tie_in" s_tie_in ["text"] := ⟨_, _, fun_mk (st := s_tie_in) l18 c18 k18, (fun_mk (st := s_tie_in) l18 c18 k18).binds fun _ _ _ _ _ _ us hl => match us, hl with | [_], _ => rfl, PySem.W.mg_of X G a18⟩
  have C_tie_in := ok_tie_in (P := l.prog) (w := w) (base := base) B C D_tie_in C_number_in (w_tie_in := wTI C_NoText)  b_tie_in
  have D_read_record : FunD K mg "read_record" s_read_record ["n", "text"] := ⟨_, _, fun_mk (st := s_read_record) l19 c19 k19, (fun_mk (st := s_read_record) l19 c19 k19).binds fun _ _ _ _ _ _ us hl => match us, hl with | [_, _], _ => rfl, PySem.W.mg_of X G a19⟩
  have C_read_record := ok_read_record (P := l.prog) (w := w) (base := base) B C D_read_record X_NoText C_tie_in C_is_record (w_read_record := wRR C_NoText)  b_read_record
  have D_read_net : FunD K mg "read_net" s_read_net ["text"] := ⟨_, _, fun_mk (st := s_read_net) l20 c20 k20, (fun_mk (st := s_read_net) l20 c20 k20).binds fun _ _ _ _ _ _ us hl => match us, hl with | [_], _ => rfl, PySem.W.mg_of X G a20⟩
  have C_read_net := ok_read_net (P := l.prog) (w := w) (base := base) B C D_read_net X_NoText C_number_in C_is_many C_read_record C_is_net (w_read_net := wRN C_NoText)  b_read_net
  have D__law_mixed : FunD K mg "_law_mixed" s__law_mixed ["cell", "k"] := ⟨_, _, fun_mk (st := s__law_mixed) l21 c21 k21, (fun_mk (st := s__law_mixed) l21 c21 k21).binds fun _ _ _ _ _ _ us hl => match us, hl with | [_, _], _ => rfl, PySem.W.mg_of X G a21⟩
  have C__law_mixed := ok__law_mixed (P := l.prog) (w := w) (base := base) B C D__law_mixed (w__law_mixed := wMix) (fun _ _ _ h => h) b_mixed
  have D__law_numbers : FunD K mg "_law_numbers" s__law_numbers ["cell", "many", "base"] := ⟨_, _, fun_mk (st := s__law_numbers) l22 c22 k22, (fun_mk (st := s__law_numbers) l22 c22 k22).binds fun _ _ _ _ _ _ us hl => match us, hl with | [_, _, _], _ => rfl, PySem.W.mg_of X G a22⟩
  have C__law_numbers := ok__law_numbers (P := l.prog) (w := w) (base := base) B C D__law_numbers C__law_mixed (w__law_numbers := wNums) (fun _ _ _ h => h) b_numbers
  have D__law_ends : FunD K mg "_law_ends" s__law_ends ["n", "kind", "one", "other"] := ⟨_, _, fun_mk (st := s__law_ends) l23 c23 k23, (fun_mk (st := s__law_ends) l23 c23 k23).binds fun _ _ _ _ _ _ us hl => match us, hl with | [_, _, _, _], _ => rfl, PySem.W.mg_of X G a23⟩
  have C__law_ends := ok__law_ends (P := l.prog) (w := w) (base := base) B C D__law_ends (w__law_ends := wEnds) (fun _ _ _ h => h) b_ends
  have D__law_record : FunD K mg "_law_record" s__law_record ["numbers", "most"] := ⟨_, _, fun_mk (st := s__law_record) l24 c24 k24, (fun_mk (st := s__law_record) l24 c24 k24).binds fun _ _ _ _ _ _ us hl => match us, hl with | [_, _], _ => rfl, PySem.W.mg_of X G a24⟩
  have C__law_record := ok__law_record (P := l.prog) (w := w) (base := base) B C D__law_record C__law_ends (w__law_record := wRec) (fun _ _ _ h => h) b_rec
  have D__law_depth : FunD K mg "_law_depth" s__law_depth ["number"] := ⟨_, _, fun_mk (st := s__law_depth) l25 c25 k25, (fun_mk (st := s__law_depth) l25 c25 k25).binds fun _ _ _ _ _ _ us hl => match us, hl with | [_], _ => rfl, PySem.W.mg_of X G a25⟩
  have C__law_depth := ok__law_depth (P := l.prog) (w := w) (base := base) B C D__law_depth (w__law_depth := wDep) (fun _ _ _ h => h) b_depth
  have D__law_joined : FunD K mg "_law_joined" s__law_joined ["n", "ties", "a", "b"] := ⟨_, _, fun_mk (st := s__law_joined) l26 c26 k26, (fun_mk (st := s__law_joined) l26 c26 k26).binds fun _ _ _ _ _ _ us hl => match us, hl with | [_, _, _, _], _ => rfl, PySem.W.mg_of X G a26⟩
  have C__law_joined := ok__law_joined (P := l.prog) (w := w) (base := base) B C D__law_joined (w__law_joined := wJn) (fun _ _ _ h => h) b_jn
  have D__law_numbered : FunD K mg "_law_numbered" s__law_numbered ["n", "record", "k"] := ⟨_, _, fun_mk (st := s__law_numbered) l27 c27 k27, (fun_mk (st := s__law_numbered) l27 c27 k27).binds fun _ _ _ _ _ _ us hl => match us, hl with | [_, _, _], _ => rfl, PySem.W.mg_of X G a27⟩
  have C__law_numbered := ok__law_numbered (P := l.prog) (w := w) (base := base) B C D__law_numbered C__law_joined (w__law_numbered := wNd) (fun _ _ _ h => h) b_numbered
  have D__law_text : FunD K mg "_law_text" s__law_text ["record"] := ⟨_, _, fun_mk (st := s__law_text) l28 c28 k28, (fun_mk (st := s__law_text) l28 c28 k28).binds fun _ _ _ _ _ _ us hl => match us, hl with | [_], _ => rfl, PySem.W.mg_of X G a28⟩
  have C__law_text := ok__law_text (P := l.prog) (w := w) (base := base) B C D__law_text (w__law_text := wLT) (fun _ _ _ h => h) b_lt
  have D__law_read : FunD K mg "_law_read" s__law_read ["text"] := ⟨_, _, fun_mk (st := s__law_read) l29 c29 k29, (fun_mk (st := s__law_read) l29 c29 k29).binds fun _ _ _ _ _ _ us hl => match us, hl with | [_], _ => rfl, PySem.W.mg_of X G a29⟩
  have C__law_read := ok__law_read (P := l.prog) (w := w) (base := base) B C D__law_read G_PlyError G_NoText G_Clash G_NoLayers G_NoNet G_NoPlaces G_NoTies C_read_net (w__law_read := wLR) (fun _ _ _ h => h) (b_lr T)
  have D__law_due : FunD K mg "_law_due" s__law_due ["n", "k", "ties"] := ⟨_, _, fun_mk (st := s__law_due) l30 c30 k30, (fun_mk (st := s__law_due) l30 c30 k30).binds fun _ _ _ _ _ _ us hl => match us, hl with | [_, _, _], _ => rfl, PySem.W.mg_of X G a30⟩
  have C__law_due := ok__law_due (P := l.prog) (w := w) (base := base) B C D__law_due C__law_numbered (w__law_due := wDue) (fun _ _ _ h => h) b_due
  have D__law_bad : FunD K mg "_law_bad" s__law_bad ["n", "k", "ties", "number"] := ⟨_, _, fun_mk (st := s__law_bad) l31 c31 k31, (fun_mk (st := s__law_bad) l31 c31 k31).binds fun _ _ _ _ _ _ us hl => match us, hl with | [_, _, _, _], _ => rfl, PySem.W.mg_of X G a31⟩
  have C__law_bad := ok__law_bad (P := l.prog) (w := w) (base := base) B C D__law_bad C__law_text (w__law_bad := wBad) (fun _ _ _ h => h) b_bad
  have D__law_no_net : FunD K mg "_law_no_net" s__law_no_net ["n", "k", "ties", "record", "number"] := ⟨_, _, fun_mk (st := s__law_no_net) l32 c32 k32, (fun_mk (st := s__law_no_net) l32 c32 k32).binds fun _ _ _ _ _ _ us hl => match us, hl with | [_, _, _, _, _], _ => rfl, PySem.W.mg_of X G a32⟩
  have C__law_no_net := ok__law_no_net (P := l.prog) (w := w) (base := base) B C D__law_no_net (w__law_no_net := wNo) (fun _ _ _ h => h) b_no
  have D__law_unwritten : FunD K mg "_law_unwritten" s__law_unwritten ["thing"] := ⟨_, _, fun_mk (st := s__law_unwritten) l33 c33 k33, (fun_mk (st := s__law_unwritten) l33 c33 k33).binds fun _ _ _ _ _ _ us hl => match us, hl with | [_], _ => rfl, PySem.W.mg_of X G a33⟩
  have C__law_unwritten := ok__law_unwritten (P := l.prog) (w := w) (base := base) B C D__law_unwritten G_PlyError G_NoNet G_Clash G_NoLayers G_NoPlaces G_NoText G_NoTies C_net_text (w__law_unwritten := wUn) (fun _ _ _ h => h) (b_un T2)
  exact ok_law B C (fun_mk (st := s_law) l34 c34 k34) C__law_numbers C__law_record C__law_depth C__law_numbered C__law_text C__law_read C__law_due C__law_bad C__law_unwritten C__law_no_net (fun _ _ _ h => h) b_law
theorem walk {l : PySem.W.OpenLaw} {q : Program} {loose : List Str} {XP : (Str → Option Value) → Heap → Prop} {YP : World → Heap → Prop} {d : DefRec} {K : Params → PySem.W.Frag} (hn : l.most = some 63) (hdf : d.params.defaults = [])
    (hY : ∀ (w : World) (h : Heap), YP w h → (K w.params).In h)
    (F : ∀ (w : World) (mg : Str → Option Value) (fa : Addr) (h : Heap), (K w.params).In h → h.Ns mainGlobals mg → mg d.name = some (.ref fa) →
      ∃ fd : FuncData, (∀ (s : Shared) (u : Value), BindsTo s fd ⟨[u], []⟩ [("script", u)]) ∧ ∀ base : Heap, (K w.params).In base → base.Ns mainGlobals mg → FnOk l.prog w (K w.params) mg base CX0 9 fa fd ["script"] (spO (K w.params) 1 wLaw)) :
    PySem.W.WalkO q loose XP YP l.row.toRowW d [] (fun f vs => PySem.call f vs) :=
  L2.walk_ofB (n := 63) (k := 9) (x := "script") (CX := fun _ => CX0) (sp := fun w => spO (K w.params) 1 wLaw) hn (by decide) hdf ⟨rfl, by decide, by decide⟩ hY F (fun _ _ a ns hl hb _ hS => law_sp hS fun q x hq => ⟨ns, rfl, by omega, hq⟩) fun _ _ _ _ _ z => z
end K57
open PySem PySem.W PyProof.Rows
set_option maxRecDepth 100000 in
set_option maxHeartbeats 0 in
theorem PySem.Challenge.cw_sinceply_k57_nets_misread_holds : PySem.Challenge.rw_sinceply_k57_nets_misread.Holds := by
  w_on; o_law; k_head; (case hw => w_witness2)
  k_fill
  refine K57.walk (l := PySem.Challenge.rw_sinceply_k57_nets_misread) rfl rfl (fun w h Y => PySem.W.kIn_of Y) ?F
  case F =>
    intro w mg fa h KX G hmg
    refine' K57.all_mk KX G hmg ?a0 ?l0 ?c0 ?k0 ?a1 ?l1 ?c1 ?k1 ?a2 ?l2 ?c2 ?k2 ?a3 ?l3 ?c3 ?k3 ?a4 ?l4 ?c4 ?k4 ?a5 ?l5 ?c5 ?k5 ?a6 ?l6 ?c6 ?k6 ?a7 ?l7 ?c7 ?k7 ?a8 ?l8 ?c8 ?k8 ?a9 ?l9 ?c9 ?k9 ?a10 ?l10 ?c10 ?k10 ?a11 ?l11 ?c11 ?k11 ?a12 ?l12 ?c12 ?k12 ?a13 ?l13 ?c13 ?k13 ?a14 ?l14 ?c14 ?k14 ?a15 ?l15 ?c15 ?k15 ?a16 ?l16 ?c16 ?k16 ?a17 ?l17 ?c17 ?k17 ?a18 ?l18 ?c18 ?k18 ?a19 ?l19 ?c19 ?k19 ?a20 ?l20 ?c20 ?k20 ?a21 ?l21 ?c21 ?k21 ?a22 ?l22 ?c22 ?k22 ?a23 ?l23 ?c23 ?k23 ?a24 ?l24 ?c24 ?k24 ?a25 ?l25 ?c25 ?k25 ?a26 ?l26 ?c26 ?k26 ?a27 ?l27 ?c27 ?k27 ?a28 ?l28 ?c28 ?k28 ?a29 ?l29 ?c29 ?k29 ?a30 ?l30 ?c30 ?k30 ?a31 ?l31 ?c31 ?k31 ?a32 ?l32 ?c32 ?k32 ?a33 ?l33 ?c33 ?k33 ?a34 ?l34 ?c34 ?k34 ?z_ValueError ?z_all ?z_bool ?z_enumerate ?z_int ?z_isinstance ?z_len ?z_list ?z_max ?z_min ?z_range ?z_reversed ?z_str ?z_tuple ?z_zip ?y_FIGURES ?y_LAST_MOMENT ?y_MOST_FIGURES ?y_MOST_LAYERS_layers ?y_MOST_LAYERS_nets ?y_MOST_PLACES_nets ?y_MOST_PLACES_records ?y_MOST_TIES ?y_NOTHING ?g_NoNet ?g_NoText ?g_PlyError ?g_Clash ?g_NoLayers ?g_NoPlaces ?g_NoTies ?x_NoNet ?p_NoNet ?b_NoNet ?u_NoNet ?x_NoText ?p_NoText ?b_NoText ?u_NoText ?e5 ?e6 ?s3 ?s4 ?s5 ?i_Clash ?t_Clash ?i_NoLayers ?t_NoLayers ?i_NoNet ?t_NoNet ?i_NoPlaces ?t_NoPlaces ?i_NoText ?t_NoText ?i_NoTies ?t_NoTies ?p1 ?p2 ?p3 ?p4 ?p7 ?ps0 ?ps1 ?ps2 ?pn_Clash ?pn_NoLayers ?pn_NoNet ?pn_NoPlaces ?pn_NoTies ?q1 ?q2 ?q3 ?q4 ?q7 ?qs0 ?qs1 ?qs2 ?qn_Clash ?qn_NoLayers ?qn_NoPlaces ?qn_NoText ?qn_NoTies
    (case a0 => k_is)
    (case l0 => k_is)
    (case c0 => k_is)
    (case k0 => k_is)
    (case a1 => k_is)
    (case l1 => k_is)
    (case c1 => k_is)
    (case k1 => k_is)
    (case a2 => k_is)
    (case l2 => k_is)
    (case c2 => k_is)
    (case k2 => k_is)
    (case a3 => k_is)
    (case l3 => k_is)
    (case c3 => k_is)
    (case k3 => k_is)
    (case a4 => k_is)
    (case l4 => k_is)
    (case c4 => k_is)
    (case k4 => k_is)
    (case a5 => k_is)
    (case l5 => k_is)
    (case c5 => k_is)
    (case k5 => k_is)
    (case a6 => k_is)
    (case l6 => k_is)
    (case c6 => k_is)
    (case k6 => k_is)
    (case a7 => k_is)
    (case l7 => k_is)
    (case c7 => k_is)
    (case k7 => k_is)
    (case a8 => k_is)
    (case l8 => k_is)
    (case c8 => k_is)
    (case k8 => k_is)
    (case a9 => k_is)
    (case l9 => k_is)
    (case c9 => k_is)
    (case k9 => k_is)
    (case a10 => k_is)
    (case l10 => k_is)
    (case c10 => k_is)
    (case k10 => k_is)
    (case a11 => k_is)
    (case l11 => k_is)
    (case c11 => k_is)
    (case k11 => k_is)
    (case a12 => k_is)
    (case l12 => k_is)
    (case c12 => k_is)
    (case k12 => k_is)
    (case a13 => k_is)
    (case l13 => k_is)
    (case c13 => k_is)
    (case k13 => k_is)
    (case a14 => k_is)
    (case l14 => k_is)
    (case c14 => k_is)
    (case k14 => k_is)
    (case a15 => k_is)
    (case l15 => k_is)
    (case c15 => k_is)
    (case k15 => k_is)
    (case a16 => k_is)
    (case l16 => k_is)
    (case c16 => k_is)
    (case k16 => k_is)
    (case a17 => k_is)
    (case l17 => k_is)
    (case c17 => k_is)
    (case k17 => k_is)
    (case a18 => k_is)
    (case l18 => k_is)
    (case c18 => k_is)
    (case k18 => k_is)
    (case a19 => k_is)
    (case l19 => k_is)
    (case c19 => k_is)
    (case k19 => k_is)
    (case a20 => k_is)
    (case l20 => k_is)
    (case c20 => k_is)
    (case k20 => k_is)
    (case a21 => k_is)
    (case l21 => k_is)
    (case c21 => k_is)
    (case k21 => k_is)
    (case a22 => k_is)
    (case l22 => k_is)
    (case c22 => k_is)
    (case k22 => k_is)
    (case a23 => k_is)
    (case l23 => k_is)
    (case c23 => k_is)
    (case k23 => k_is)
    (case a24 => k_is)
    (case l24 => k_is)
    (case c24 => k_is)
    (case k24 => k_is)
    (case a25 => k_is)
    (case l25 => k_is)
    (case c25 => k_is)
    (case k25 => k_is)
    (case a26 => k_is)
    (case l26 => k_is)
    (case c26 => k_is)
    (case k26 => k_is)
    (case a27 => k_is)
    (case l27 => k_is)
    (case c27 => k_is)
    (case k27 => k_is)
    (case a28 => k_is)
    (case l28 => k_is)
    (case c28 => k_is)
    (case k28 => k_is)
    (case a29 => k_is)
    (case l29 => k_is)
    (case c29 => k_is)
    (case k29 => k_is)
    (case a30 => k_is)
    (case l30 => k_is)
    (case c30 => k_is)
    (case k30 => k_is)
    (case a31 => k_is)
    (case l31 => k_is)
    (case c31 => k_is)
    (case k31 => k_is)
    (case a32 => k_is)
    (case l32 => k_is)
    (case c32 => k_is)
    (case k32 => k_is)
    (case a33 => k_is)
    (case l33 => k_is)
    (case c33 => k_is)
    (case k33 => k_is)
    (case a34 => k_is)
    (case l34 => k_is)
    (case c34 => k_is)
    (case k34 => k_is)
    (case z_ValueError => k_is)
    (case z_all => k_is)
    (case z_bool => k_is)
    (case z_enumerate => k_is)
    (case z_int => k_is)
    (case z_isinstance => k_is)
    (case z_len => k_is)
    (case z_list => k_is)
    (case z_max => k_is)
    (case z_min => k_is)
    (case z_range => k_is)
    (case z_reversed => k_is)
    (case z_str => k_is)
    (case z_tuple => k_is)
    (case z_zip => k_is)
    (case y_FIGURES => k_is)
    (case y_LAST_MOMENT => k_is)
    (case y_MOST_FIGURES => k_is)
    (case y_MOST_LAYERS_layers => k_is)
    (case y_MOST_LAYERS_nets => k_is)
    (case y_MOST_PLACES_nets => k_is)
    (case y_MOST_PLACES_records => k_is)
    (case y_MOST_TIES => k_is)
    (case y_NOTHING => k_is)
    (case g_NoNet => k_is)
    (case g_NoText => k_is)
    (case g_PlyError => k_is)
    (case g_Clash => k_is)
    (case g_NoLayers => k_is)
    (case g_NoPlaces => k_is)
    (case g_NoTies => k_is)
    (case x_NoNet => k_exc)
    (case p_NoNet => k_is)
    (case b_NoNet => k_is)
    (case u_NoNet => k_is)
    (case x_NoText => k_exc)
    (case p_NoText => k_is)
    (case b_NoText => k_is)
    (case u_NoText => k_is)
    (case e5 => k_is)
    (case e6 => k_is)
    (case s3 => k_is)
    (case s4 => k_is)
    (case s5 => k_is)
    (case i_Clash => k_is)
    (case t_Clash => k_is)
    (case i_NoLayers => k_is)
    (case t_NoLayers => k_is)
    (case i_NoNet => k_is)
    (case t_NoNet => k_is)
    (case i_NoPlaces => k_is)
    (case t_NoPlaces => k_is)
    (case i_NoText => k_is)
    (case t_NoText => k_is)
    (case i_NoTies => k_is)
    (case t_NoTies => k_is)
    (case p1 => k_is)
    (case p2 => k_is)
    (case p3 => k_is)
    (case p4 => k_is)
    (case p7 => k_is)
    (case ps0 => k_is)
    (case ps1 => k_is)
    (case ps2 => k_is)
    (case pn_Clash => k_is)
    (case pn_NoLayers => k_is)
    (case pn_NoNet => k_is)
    (case pn_NoPlaces => k_is)
    (case pn_NoTies => k_is)
    (case q1 => k_is)
    (case q2 => k_is)
    (case q3 => k_is)
    (case q4 => k_is)
    (case q7 => k_is)
    (case qs0 => k_is)
    (case qs1 => k_is)
    (case qs2 => k_is)
    (case qn_Clash => k_is)
    (case qn_NoLayers => k_is)
    (case qn_NoPlaces => k_is)
    (case qn_NoText => k_is)
    (case qn_NoTies => k_is)
