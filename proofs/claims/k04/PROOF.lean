import PyProof.Rows.All
import Wide.All
import OpenK.AllK
import Wide.FinOn
import HandS.ForMost
import HandS.TupAny
import HandS.Wide
import HandS.IsInst
import HandS.Deep
import HandS.Style
import HandS.Conv
import HandS.DictEq
import HandS.Text
import HandS.Dict
import HandS.More
import HandS.DictComp
import PySem.Challenge.RW_sayswho_k04_worths
set_option Elab.async false
set_option linter.all false
set_option maxRecDepth 100000
set_option maxHeartbeats 8000000
namespace Z
open PySem PySem.Spec L2
inductive O where
  | own | fro | ext
  deriving DecidableEq
inductive D where
  | v (x : V)
  | tup (ds : List D)
  | ktp (ds : List D)
  | lst (o : O) (ds : List D)
  | dic (o : O) (ks : List Key) (ds : List D)
  | dit (o : O) (ks : List (List Key)) (ds : List D)
  | ins (c : Str) (fs : List Str) (ds : List D)
abbrev DS := List (Option D)
mutual
def clean : D → Bool
  | .v _ => true
  | .tup ds => cleans ds
  | .ktp ds => cleans ds
  | .lst o ds => decide (o ≠ .own) && cleans ds
  | .dic o _ ds => decide (o ≠ .own) && cleans ds
  | .dit o _ ds => decide (o ≠ .own) && cleans ds
  | .ins _ _ _ => false
def cleans : List D → Bool
  | [] => true
  | d :: ds => clean d && cleans ds
end
def fzO : O → O
  | .own => .fro
  | o => o
mutual
def fz : D → D
  | .v x => .v x
  | .tup ds => .tup (fzs ds)
  | .ktp ds => .ktp (fzs ds)
  | .lst o ds => .lst (fzO o) (fzs ds)
  | .dic o ks ds => .dic (fzO o) ks (fzs ds)
  | .dit o ks ds => .dit (fzO o) ks (fzs ds)
  | .ins c fs ds => .ins c fs ds
def fzs : List D → List D
  | [] => []
  | d :: ds => fz d :: fzs ds
end
section
variable (K : PySem.W.Frag) (mg : Str → Option Value) (G H : Hp)
/-- the values are the data; what is owned stands at the addresses, each once -/
inductive Owns : List V → List D → List Addr → Prop
  | nil : Owns [] [] []
  | v {x : V} {vs : List V} {ds : List D} {f : List Addr} : Owns vs ds f → Owns (x :: vs) (.v x :: ds) f
  | tup {a : Addr} {xs vs : List V} {es ds : List D} {f1 f2 : List Addr} : G a = some (.tup xs) → Owns xs es f1 → Owns vs ds f2 → Owns (.ref a :: vs) (.tup es :: ds) (f1 ++ f2)
  | kt {a : Addr} {xs vs : List V} {es ds : List D} {f1 f2 : List Addr} : SqT K G a xs → Owns xs es f1 → Owns vs ds f2 → Owns (.ref a :: vs) (.ktp es :: ds) (f1 ++ f2)
  | el {a : Addr} {xs vs : List V} {es ds : List D} {f1 f2 : List Addr} : SqL K G a xs → Owns xs es f1 → Owns vs ds f2 → Owns (.ref a :: vs) (.lst .ext es :: ds) (f1 ++ f2)
  | fl {a : Addr} {xs vs : List V} {es ds : List D} {f1 f2 : List Addr} : G a = some (.lst xs) → Owns xs es f1 → Owns vs ds f2 → Owns (.ref a :: vs) (.lst .fro es :: ds) (f1 ++ f2)
  | ol {a : Addr} {xs vs : List V} {es ds : List D} {f1 f2 : List Addr} : H a = some (.lst xs) → G a = none → Owns xs es f1 → Owns vs ds f2 → Owns (.ref a :: vs) (.lst .own es :: ds) (a :: (f1 ++ f2))
  | fd {a : Addr} {kvs : List (Key × V)} {ks : List Key} {vs : List V} {es ds : List D} {f1 f2 : List Addr} : G a = some (.dK kvs) → kvs.map (·.1) = ks → Owns (kvs.map (·.2)) es f1 → Owns vs ds f2 → Owns (.ref a :: vs) (.dic .fro ks es :: ds) (f1 ++ f2)
  | od {a : Addr} {kvs : List (Key × V)} {ks : List Key} {vs : List V} {es ds : List D} {f1 f2 : List Addr} : H a = some (.dK kvs) → G a = none → kvs.map (·.1) = ks → Owns (kvs.map (·.2)) es f1 → Owns vs ds f2 → Owns (.ref a :: vs) (.dic .own ks es :: ds) (a :: (f1 ++ f2))
  | ft {a : Addr} {kvs : List (List Key × V)} {ks : List (List Key)} {vs : List V} {es ds : List D} {f1 f2 : List Addr} : G a = some (.dT kvs) → kvs.map (·.1) = ks → Owns (kvs.map (·.2)) es f1 → Owns vs ds f2 → Owns (.ref a :: vs) (.dit .fro ks es :: ds) (f1 ++ f2)
  | ot {a : Addr} {kvs : List (List Key × V)} {ks : List (List Key)} {vs : List V} {es ds : List D} {f1 f2 : List Addr} : H a = some (.dT kvs) → G a = none → kvs.map (·.1) = ks → Owns (kvs.map (·.2)) es f1 → Owns vs ds f2 → Owns (.ref a :: vs) (.dit .own ks es :: ds) (a :: (f1 ++ f2))
  | oi {a C dx : Addr} {fs : List (Str × V)} {c : Str} {ns : List Str} {vs : List V} {es ds : List D} {f1 f2 : List Addr} : H a = some (.ins C dx fs) → G a = none → mg c = some (.ref C) → fs.map (·.1) = ns → Owns (fs.map (·.2)) es f1 → Owns vs ds f2 → Owns (.ref a :: vs) (.ins c ns es :: ds) (a :: (f1 ++ f2))
inductive OwnS : St → DS → List Addr → Prop
  | nil : OwnS [] [] []
  | no {o : Option V} {σ : St} {ds : DS} {f : List Addr} : OwnS σ ds f → OwnS (o :: σ) (none :: ds) f
  | yes {v : V} {d : D} {σ : St} {ds : DS} {f1 f2 : List Addr} : Owns K mg G H [v] [d] f1 → OwnS σ ds f2 → OwnS (some v :: σ) (some d :: ds) (f1 ++ f2)
end
section
variable {K : PySem.W.Frag} {mg : Str → Option Value} {G H G' H' : Hp} {vs ws : List V} {ds es : List D} {f f1 f2 : List Addr} {σ : St}
theorem sqT_mono {a : Addr} {xs : List V} (g : Same G G') (h : SqT K G a xs) : SqT K G' a xs := by
  rcases h with (h | ⟨o, h⟩) | h
  · exact .inl (.inl (g _ _ h))
  · exact .inl (.inr ⟨o, g _ _ h⟩)
  · exact .inr h
theorem sqL_mono {a : Addr} {xs : List V} (g : Same G G') (h : SqL K G a xs) : SqL K G' a xs := g.seq h
theorem Owns.frame (h : Owns K mg G H vs ds f) (g : Same G G') (k : ∀ a ∈ f, (∀ o, H a = some o → H' a = some o) ∧ G' a = none) : Owns K mg G' H' vs ds f := by
  induction h with
  | nil => exact .nil
  | v _ ih => exact .v (ih k)
  | tup e _ _ i1 i2 => exact .tup (g _ _ e) (i1 fun a h => k a (List.mem_append_left _ h)) (i2 fun a h => k a (List.mem_append_right _ h))
  | kt e _ _ i1 i2 => exact .kt (sqT_mono g e) (i1 fun a h => k a (List.mem_append_left _ h)) (i2 fun a h => k a (List.mem_append_right _ h))
  | el e _ _ i1 i2 => exact .el (sqL_mono g e) (i1 fun a h => k a (List.mem_append_left _ h)) (i2 fun a h => k a (List.mem_append_right _ h))
  | fl e _ _ i1 i2 => exact .fl (g _ _ e) (i1 fun a h => k a (List.mem_append_left _ h)) (i2 fun a h => k a (List.mem_append_right _ h))
  | ol e n _ _ i1 i2 => exact .ol ((k _ List.mem_cons_self).1 _ e) (k _ List.mem_cons_self).2 (i1 fun a h => k a (List.mem_cons_of_mem _ (List.mem_append_left _ h))) (i2 fun a h => k a (List.mem_cons_of_mem _ (List.mem_append_right _ h)))
  | fd e e2 _ _ i1 i2 => exact .fd (g _ _ e) e2 (i1 fun a h => k a (List.mem_append_left _ h)) (i2 fun a h => k a (List.mem_append_right _ h))
  | od e n e2 _ _ i1 i2 => exact .od ((k _ List.mem_cons_self).1 _ e) (k _ List.mem_cons_self).2 e2 (i1 fun a h => k a (List.mem_cons_of_mem _ (List.mem_append_left _ h))) (i2 fun a h => k a (List.mem_cons_of_mem _ (List.mem_append_right _ h)))
  | ft e e2 _ _ i1 i2 => exact .ft (g _ _ e) e2 (i1 fun a h => k a (List.mem_append_left _ h)) (i2 fun a h => k a (List.mem_append_right _ h))
  | ot e n e2 _ _ i1 i2 => exact .ot ((k _ List.mem_cons_self).1 _ e) (k _ List.mem_cons_self).2 e2 (i1 fun a h => k a (List.mem_cons_of_mem _ (List.mem_append_left _ h))) (i2 fun a h => k a (List.mem_cons_of_mem _ (List.mem_append_right _ h)))
  | oi e n e2 e3 _ _ i1 i2 => exact .oi ((k _ List.mem_cons_self).1 _ e) (k _ List.mem_cons_self).2 e2 e3 (i1 fun a h => k a (List.mem_cons_of_mem _ (List.mem_append_left _ h))) (i2 fun a h => k a (List.mem_cons_of_mem _ (List.mem_append_right _ h)))
theorem here_cons {P : Addr → Prop} {a : Addr} {f1 f2 : List Addr} (h : P a) (h1 : ∀ b ∈ f1, P b) (h2 : ∀ b ∈ f2, P b) : ∀ b ∈ a :: (f1 ++ f2), P b := by
  intro b hb
  rcases List.mem_cons.mp hb with rfl | hb
  · exact h
  · exact (List.mem_append.mp hb).elim (h1 b) (h2 b)
/-- what is owned is there, and not known -/
theorem Owns.here (h : Owns K mg G H vs ds f) : ∀ a ∈ f, (∃ o, H a = some o) ∧ G a = none := by
  induction h with
  | nil => intro a h; cases h
  | v _ ih => exact ih
  | tup _ _ _ i1 i2 => intro a h; exact (List.mem_append.mp h).elim (i1 a) (i2 a)
  | kt _ _ _ i1 i2 => intro a h; exact (List.mem_append.mp h).elim (i1 a) (i2 a)
  | el _ _ _ i1 i2 => intro a h; exact (List.mem_append.mp h).elim (i1 a) (i2 a)
  | fl _ _ _ i1 i2 => intro a h; exact (List.mem_append.mp h).elim (i1 a) (i2 a)
  | ol e n _ _ i1 i2 => exact here_cons ⟨⟨_, e⟩, n⟩ i1 i2
  | fd _ _ _ _ i1 i2 => intro a h; exact (List.mem_append.mp h).elim (i1 a) (i2 a)
  | od e n _ _ _ i1 i2 => exact here_cons ⟨⟨_, e⟩, n⟩ i1 i2
  | ft _ _ _ _ i1 i2 => intro a h; exact (List.mem_append.mp h).elim (i1 a) (i2 a)
  | ot e n _ _ _ i1 i2 => exact here_cons ⟨⟨_, e⟩, n⟩ i1 i2
  | oi e n _ _ _ _ i1 i2 => exact here_cons ⟨⟨_, e⟩, n⟩ i1 i2
theorem Owns.clean (h : Owns K mg G H vs ds f) (c : cleans ds = true) : f = [] := by
  induction h with
  | nil => rfl
  | v _ ih => simp only [cleans, Z.clean, Bool.and_eq_true] at c; exact ih c.2
  | tup _ _ _ i1 i2 => simp only [cleans, Z.clean, Bool.and_eq_true] at c; rw [i1 c.1, i2 c.2]; rfl
  | kt _ _ _ i1 i2 => simp only [cleans, Z.clean, Bool.and_eq_true] at c; rw [i1 c.1, i2 c.2]; rfl
  | el _ _ _ i1 i2 => simp only [cleans, Z.clean, Bool.and_eq_true] at c; rw [i1 c.1.2, i2 c.2]; rfl
  | fl _ _ _ i1 i2 => simp only [cleans, Z.clean, Bool.and_eq_true] at c; rw [i1 c.1.2, i2 c.2]; rfl
  | ol _ _ _ _ i1 i2 => simp [cleans, Z.clean] at c
  | fd _ _ _ _ i1 i2 => simp only [cleans, Z.clean, Bool.and_eq_true] at c; rw [i1 c.1.2, i2 c.2]; rfl
  | od _ _ _ _ _ i1 i2 => simp [cleans, Z.clean] at c
  | ft _ _ _ _ i1 i2 => simp only [cleans, Z.clean, Bool.and_eq_true] at c; rw [i1 c.1.2, i2 c.2]; rfl
  | ot _ _ _ _ _ i1 i2 => simp [cleans, Z.clean] at c
  | oi _ _ _ _ _ _ i1 i2 => simp [cleans, Z.clean] at c
/-- frozen: what was owned is known now -/
theorem Owns.freeze (h : Owns K mg G H vs ds f) (c : cleans (fzs ds) = true) (g : Same G G') (k : ∀ a ∈ f, ∀ o, H a = some o → G' a = some o) : Owns K mg G' H' vs (fzs ds) [] := by
  induction h with
  | nil => exact .nil
  | v _ ih => simp only [fzs, fz, cleans, Z.clean, Bool.and_eq_true] at c; simp only [fzs, fz]; exact .v (ih c.2 k)
  | tup e _ _ i1 i2 =>
    simp only [fzs, fz, cleans, Z.clean, Bool.and_eq_true] at c
    exact .tup (f1 := []) (f2 := []) (g _ _ e) (i1 c.1 fun a h => k a (List.mem_append_left _ h)) (i2 c.2 fun a h => k a (List.mem_append_right _ h))
  | kt e _ _ i1 i2 =>
    simp only [fzs, fz, cleans, Z.clean, Bool.and_eq_true] at c
    exact .kt (f1 := []) (f2 := []) (sqT_mono g e) (i1 c.1 fun a h => k a (List.mem_append_left _ h)) (i2 c.2 fun a h => k a (List.mem_append_right _ h))
  | el e _ _ i1 i2 =>
    simp only [fzs, fz, cleans, Z.clean, Bool.and_eq_true] at c
    exact .el (f1 := []) (f2 := []) (sqL_mono g e) (i1 c.1.2 fun a h => k a (List.mem_append_left _ h)) (i2 c.2 fun a h => k a (List.mem_append_right _ h))
  | fl e _ _ i1 i2 =>
    simp only [fzs, fz, cleans, Z.clean, Bool.and_eq_true] at c
    exact .fl (f1 := []) (f2 := []) (g _ _ e) (i1 c.1.2 fun a h => k a (List.mem_append_left _ h)) (i2 c.2 fun a h => k a (List.mem_append_right _ h))
  | ol e n _ _ i1 i2 =>
    simp only [fzs, fz, cleans, Z.clean, Bool.and_eq_true] at c
    exact .fl (f1 := []) (f2 := []) (k _ List.mem_cons_self _ e) (i1 c.1.2 fun a h => k a (List.mem_cons_of_mem _ (List.mem_append_left _ h))) (i2 c.2 fun a h => k a (List.mem_cons_of_mem _ (List.mem_append_right _ h)))
  | fd e e2 _ _ i1 i2 =>
    simp only [fzs, fz, cleans, Z.clean, Bool.and_eq_true] at c
    exact .fd (f1 := []) (f2 := []) (g _ _ e) e2 (i1 c.1.2 fun a h => k a (List.mem_append_left _ h)) (i2 c.2 fun a h => k a (List.mem_append_right _ h))
  | od e n e2 _ _ i1 i2 =>
    simp only [fzs, fz, cleans, Z.clean, Bool.and_eq_true] at c
    exact .fd (f1 := []) (f2 := []) (k _ List.mem_cons_self _ e) e2 (i1 c.1.2 fun a h => k a (List.mem_cons_of_mem _ (List.mem_append_left _ h))) (i2 c.2 fun a h => k a (List.mem_cons_of_mem _ (List.mem_append_right _ h)))
  | ft e e2 _ _ i1 i2 =>
    simp only [fzs, fz, cleans, Z.clean, Bool.and_eq_true] at c
    exact .ft (f1 := []) (f2 := []) (g _ _ e) e2 (i1 c.1.2 fun a h => k a (List.mem_append_left _ h)) (i2 c.2 fun a h => k a (List.mem_append_right _ h))
  | ot e n e2 _ _ i1 i2 =>
    simp only [fzs, fz, cleans, Z.clean, Bool.and_eq_true] at c
    exact .ft (f1 := []) (f2 := []) (k _ List.mem_cons_self _ e) e2 (i1 c.1.2 fun a h => k a (List.mem_cons_of_mem _ (List.mem_append_left _ h))) (i2 c.2 fun a h => k a (List.mem_cons_of_mem _ (List.mem_append_right _ h)))
  | oi e n _ _ _ _ i1 i2 => simp [fzs, fz, cleans, Z.clean] at c
theorem Owns.append (h : Owns K mg G H vs ds f1) (h2 : Owns K mg G H ws es f2) : Owns K mg G H (vs ++ ws) (ds ++ es) (f1 ++ f2) := by
  induction h with
  | nil => exact h2
  | v _ ih => exact .v ih
  | tup e a _ _ i2 => rw [List.append_assoc]; exact .tup e a i2
  | kt e a _ _ i2 => rw [List.append_assoc]; exact .kt e a i2
  | el e a _ _ i2 => rw [List.append_assoc]; exact .el e a i2
  | fl e a _ _ i2 => rw [List.append_assoc]; exact .fl e a i2
  | ol e n a _ _ i2 => simpa [List.append_assoc] using Owns.ol e n a i2
  | fd e e2 a _ _ i2 => rw [List.append_assoc]; exact .fd e e2 a i2
  | od e n e2 a _ _ i2 => simpa [List.append_assoc] using Owns.od e n e2 a i2
  | ft e e2 a _ _ i2 => rw [List.append_assoc]; exact .ft e e2 a i2
  | ot e n e2 a _ _ i2 => simpa [List.append_assoc] using Owns.ot e n e2 a i2
  | oi e n e2 e3 a _ _ i2 => simpa [List.append_assoc] using Owns.oi e n e2 e3 a i2
theorem Owns.length (h : Owns K mg G H vs ds f) : vs.length = ds.length := by
  induction h with
  | nil => rfl
  | _ => simp_all
/-- the first of several -/
theorem Owns.cons_inv {v : V} {d : D} (h : Owns K mg G H (v :: vs) (d :: ds) f) : ∃ f1 f2, f = f1 ++ f2 ∧ Owns K mg G H [v] [d] f1 ∧ Owns K mg G H vs ds f2 := by
  cases h with
  | v h => exact ⟨[], _, rfl, .v .nil, h⟩
  | tup e a b => exact ⟨_, _, rfl, by simpa using Owns.tup e a .nil, b⟩
  | kt e a b => exact ⟨_, _, rfl, by simpa using Owns.kt e a .nil, b⟩
  | el e a b => exact ⟨_, _, rfl, by simpa using Owns.el e a .nil, b⟩
  | fl e a b => exact ⟨_, _, rfl, by simpa using Owns.fl e a .nil, b⟩
  | ol e n a b => exact ⟨_ :: _, _, rfl, by simpa using Owns.ol e n a .nil, b⟩
  | fd e e2 a b => exact ⟨_, _, rfl, by simpa using Owns.fd e e2 a .nil, b⟩
  | od e n e2 a b => exact ⟨_ :: _, _, rfl, by simpa using Owns.od e n e2 a .nil, b⟩
  | ft e e2 a b => exact ⟨_, _, rfl, by simpa using Owns.ft e e2 a .nil, b⟩
  | ot e n e2 a b => exact ⟨_ :: _, _, rfl, by simpa using Owns.ot e n e2 a .nil, b⟩
  | oi e n e2 e3 a b => exact ⟨_ :: _, _, rfl, by simpa using Owns.oi e n e2 e3 a .nil, b⟩
theorem Owns.cons {v : V} {d : D} (h1 : Owns K mg G H [v] [d] f1) (h2 : Owns K mg G H vs ds f2) : Owns K mg G H (v :: vs) (d :: ds) (f1 ++ f2) := h1.append h2
end
end Z
namespace Z
open PySem PySem.Spec L2
section
variable {K : PySem.W.Frag} {mg : Str → Option Value} {G H G' H' : Hp} {vs ws : List V} {es : List D} {f f1 f2 : List Addr} {σ : L2.St} {ds : DS}
theorem OwnS.frame (h : OwnS K mg G H σ ds f) (g : Same G G') (k : ∀ a ∈ f, (∀ o, H a = some o → H' a = some o) ∧ G' a = none) : OwnS K mg G' H' σ ds f := by
  induction h with
  | nil => exact .nil
  | no _ ih => exact .no (ih k)
  | yes e _ ih => exact .yes (e.frame g fun a h => k a (List.mem_append_left _ h)) (ih fun a h => k a (List.mem_append_right _ h))
theorem OwnS.here (h : OwnS K mg G H σ ds f) : ∀ a ∈ f, (∃ o, H a = some o) ∧ G a = none := by
  induction h with
  | nil => intro a h; cases h
  | no _ ih => exact ih
  | yes e _ ih => intro a h; exact (List.mem_append.mp h).elim (e.here a) (ih a)
theorem OwnS.length (h : OwnS K mg G H σ ds f) : σ.length = ds.length := by
  induction h with
  | nil => rfl
  | _ => simp_all
/-- slot i: what it holds, and any other datum of the same value put there -/
theorem OwnS.split (h : OwnS K mg G H σ ds f) {i : Nat} {d : D} (hi : ds[i]? = some (some d)) : ∃ v fa fb fc, f = fa ++ fb ++ fc ∧ σ[i]? = some (some v) ∧ Owns K mg G H [v] [d] fb ∧
    ∀ G' H', Same G G' → (∀ a, a ∈ fa ∨ a ∈ fc → (∀ o, H a = some o → H' a = some o) ∧ G' a = none) → OwnS K mg G' H' σ (ds.set i none) (fa ++ fc) ∧ ∀ d' f', Owns K mg G' H' [v] [d'] f' → OwnS K mg G' H' σ (ds.set i (some d')) (fa ++ f' ++ fc) := by
  induction h generalizing i with
  | nil => simp at hi
  | @no o σ ds f h0 ih =>
    cases i with
    | zero => simp at hi
    | succ i =>
      obtain ⟨v, fa, fb, fc, e, hv, hO, k⟩ := ih (by simpa using hi)
      refine ⟨v, fa, fb, fc, e, by simpa using hv, hO, fun G' H' g q => ?_⟩
      obtain ⟨k1, k2⟩ := k G' H' g q
      exact ⟨.no k1, fun d' f' h' => .no (k2 d' f' h')⟩
  | @yes v0 d0 σ ds g1 g2 e0 h0 ih =>
    cases i with
    | zero =>
      have : d0 = d := by simpa using hi
      subst this
      refine ⟨v0, [], g1, g2, rfl, rfl, e0, fun G' H' g q => ?_⟩
      have h1 : OwnS K mg G' H' σ ds g2 := h0.frame g fun a ha => q a (.inr ha)
      exact ⟨.no h1, fun d' f' h' => .yes h' h1⟩
    | succ i =>
      obtain ⟨v, fa, fb, fc, e, hv, hO, k⟩ := ih (by simpa using hi)
      refine ⟨v, g1 ++ fa, fb, fc, by rw [e]; simp [List.append_assoc], by simpa using hv, hO, fun G' H' g q => ?_⟩
      obtain ⟨k1, k2⟩ := k G' H' g fun a ha => q a (ha.imp (List.mem_append_right _) id)
      have e1 : Owns K mg G' H' [v0] [d0] g1 := e0.frame g fun a ha => q a (.inl (List.mem_append_left _ ha))
      refine ⟨?_, fun d' f' h' => ?_⟩
      · have := OwnS.yes e1 k1
        simpa [List.append_assoc] using this
      · have := OwnS.yes e1 (k2 d' f' h')
        simpa [List.append_assoc] using this
/-- slot i is bound anew -/
theorem OwnS.bind (h : OwnS K mg G H σ ds f) {i : Nat} (hi : i < ds.length) : ∃ fa fb fc, f = fa ++ fb ++ fc ∧ ∀ v d f', Owns K mg G H [v] [d] f' → OwnS K mg G H (σ.set i (some v)) (ds.set i (some d)) (fa ++ f' ++ fc) := by
  induction h generalizing i with
  | nil => simp at hi
  | @no o σ ds f h0 ih =>
    cases i with
    | zero => exact ⟨[], [], f, rfl, fun v d f' h' => .yes h' h0⟩
    | succ i =>
      obtain ⟨fa, fb, fc, e, k⟩ := ih (i := i) (by simpa using hi)
      exact ⟨fa, fb, fc, e, fun v d f' h' => .no (k v d f' h')⟩
  | @yes v0 d0 σ ds g1 g2 e0 h0 ih =>
    cases i with
    | zero => exact ⟨[], g1, g2, rfl, fun v d f' h' => .yes h' h0⟩
    | succ i =>
      obtain ⟨fa, fb, fc, e, k⟩ := ih (i := i) (by simpa using hi)
      refine ⟨g1 ++ fa, fb, fc, by rw [e]; simp [List.append_assoc], fun v d f' h' => ?_⟩
      have := OwnS.yes e0 (k v d f' h')
      simpa [List.append_assoc] using this
/-- slot i is forgotten -/
theorem OwnS.drop (h : OwnS K mg G H σ ds f) (i : Nat) : ∃ fa fb fc, f = fa ++ fb ++ fc ∧ ∀ o, OwnS K mg G H (σ.set i o) (ds.set i none) (fa ++ fc) := by
  induction h generalizing i with
  | nil => exact ⟨[], [], [], rfl, fun o => by simpa using OwnS.nil⟩
  | @no o σ ds f h0 ih =>
    cases i with
    | zero => exact ⟨[], [], f, rfl, fun v => .no h0⟩
    | succ i =>
      obtain ⟨fa, fb, fc, e, k⟩ := ih i
      exact ⟨fa, fb, fc, e, fun o => .no (k o)⟩
  | @yes v0 d0 σ ds g1 g2 e0 h0 ih =>
    cases i with
    | zero => exact ⟨[], g1, g2, rfl, fun v => .no h0⟩
    | succ i =>
      obtain ⟨fa, fb, fc, e, k⟩ := ih i
      refine ⟨g1 ++ fa, fb, fc, by rw [e]; simp [List.append_assoc], fun o => ?_⟩
      have := OwnS.yes e0 (k o)
      simpa [List.append_assoc] using this
end
/-- from (G, H), of which f is one's own, to (G', H'), of which f' is -/
structure Ext (f : List Addr) (G H : Hp) (f' : List Addr) (G' H' : Hp) : Prop where
  gh : Same G' H'
  gg : Same G G'
  keep : ∀ a o, H a = some o → a ∉ f → H' a = some o
  fpn : ∀ a, a ∈ f' → a ∈ f ∨ H a = none
  gn : ∀ a o, G a = none → a ∉ f → H a = some o → G' a = none
section
variable {f f' f1 f2 f3 fr : List Addr} {G H G1 H1 G2 H2 : Hp}
theorem Ext.refl (g : Same G H) (f : List Addr) : Ext f G H f G H := ⟨g, Same.refl G, fun _ _ e _ => e, fun _ h => .inl h, fun _ _ e _ _ => e⟩
theorem Ext.trans (a : Ext f G H f1 G1 H1) (b : Ext f1 G1 H1 f2 G2 H2) : Ext f G H f2 G2 H2 where
  gh := b.gh
  gg := a.gg.trans b.gg
  keep := fun p o e n => b.keep p o (a.keep p o e n) fun h => by
    rcases a.fpn p h with h | h
    · exact n h
    · rw [h] at e; cases e
  fpn := fun p h => by
    rcases b.fpn p h with h | h
    · exact a.fpn p h
    · by_cases hp : p ∈ f
      · exact .inl hp
      · refine .inr ?_
        cases e : H p with
        | none => rfl
        | some o => rw [a.keep p o e hp] at h; cases h
  gn := fun p o g n e => b.gn p o (a.gn p o g n e) (fun h => by
    rcases a.fpn p h with h | h
    · exact n h
    · rw [h] at e; cases e) (a.keep p o e n)
theorem Ext.less (a : Ext f G H f1 G1 H1) (h : ∀ p ∈ f2, p ∈ f1) : Ext f G H f2 G1 H1 := ⟨a.gh, a.gg, a.keep, fun p q => a.fpn p (h p q), a.gn⟩
/-- what stands aside stays -/
theorem Ext.aside (b : Ext f1 G1 H1 f2 G2 H2) (h : ∀ p ∈ fr, (∃ o, H1 p = some o) ∧ G1 p = none) (n : ∀ p ∈ fr, p ∉ f1) : ∀ p ∈ fr, (∀ o, H1 p = some o → H2 p = some o) ∧ G2 p = none := fun p hp =>
  let ⟨⟨o, e⟩, g⟩ := h p hp
  ⟨fun o e => b.keep p o e (n p hp), b.gn p o g (n p hp) e⟩
theorem Ext.frame (b : Ext f1 G1 H1 f2 G2 H2) (fr : List Addr) (h : ∀ p ∈ fr, (∃ o, H1 p = some o) ∧ G1 p = none) : Ext (f1 ++ fr) G1 H1 (f2 ++ fr) G2 H2 where
  gh := b.gh
  gg := b.gg
  keep := fun p o e n => b.keep p o e fun q => n (List.mem_append_left _ q)
  fpn := fun p q => by
    rcases List.mem_append.mp q with q | q
    · exact (b.fpn p q).imp (List.mem_append_left _) id
    · exact .inl (List.mem_append_right _ q)
  gn := fun p o g n e => b.gn p o g (fun q => n (List.mem_append_left _ q)) e
theorem Ext.apart (b : Ext f1 G1 H1 f2 G2 H2) (h : ∀ p ∈ fr, (∃ o, H1 p = some o) ∧ G1 p = none) (n : ∀ p ∈ fr, p ∉ f1) : ∀ p ∈ fr, p ∉ f2 := fun p hp q => by
  rcases b.fpn p q with q | q
  · exact n p hp q
  · obtain ⟨⟨o, e⟩, _⟩ := h p hp
    rw [q] at e; cases e
end
/-- the state behind: slots σ hold ds, beside them the values vs are es -/
def Pst (K : PySem.W.Frag) (mg : Str → Option Value) (f : List Addr) (G H : Hp) (σ : L2.St) (ds : DS) (vs : List V) (es : List D) (G' H' : Hp) : Prop :=
  ∃ f1 f2, Ext f G H (f1 ++ f2) G' H' ∧ OwnS K mg G' H' σ ds f1 ∧ Owns K mg G' H' vs es f2 ∧ (f1 ++ f2).Nodup
section
variable {K : PySem.W.Frag} {mg : Str → Option Value} {f f1 f2 : List Addr} {G H G1 H1 G2 H2 : Hp} {σ : L2.St} {ds ds1 ds2 : DS} {vs ws : List V} {es es2 : List D}
theorem nodup_disj {f1 f2 : List Addr} (n : (f1 ++ f2).Nodup) : ∀ p ∈ f2, p ∉ f1 := fun p h q => (List.nodup_append.mp n).2.2 p q p h rfl
/-- a step more, beside what was reached so far -/
theorem Pst.and (x : Ext f G H (f1 ++ f2) G1 H1) (o1 : OwnS K mg G1 H1 σ ds1 f1) (o2 : Owns K mg G1 H1 vs es f2) (n : (f1 ++ f2).Nodup) (p : Pst K mg f1 G1 H1 σ ds2 ws es2 G2 H2) : Pst K mg f G H σ ds2 (vs ++ ws) (es ++ es2) G2 H2 := by
  obtain ⟨g1, g2, y, q1, q2, n2⟩ := p
  have hh := o2.here
  have nd := nodup_disj n
  have o2' : Owns K mg G2 H2 vs es f2 := o2.frame y.gg (y.aside hh nd)
  have z := x.trans (y.frame f2 hh)
  refine ⟨g1, f2 ++ g2, z.less ?_, q1, o2'.append q2, ?_⟩
  · intro p hp; simp only [List.mem_append] at hp ⊢; rcases hp with h | h | h <;> simp [h]
  · have ap := y.apart hh nd
    rw [List.nodup_append] at n n2 ⊢
    refine ⟨n2.1, ?_, ?_⟩
    · rw [List.nodup_append]
      exact ⟨n.2.1, n2.2.1, fun a ha b hb e => ap a ha (List.mem_append_right _ (e ▸ hb))⟩
    · intro a ha b hb e
      rcases List.mem_append.mp hb with hb | hb
      · exact ap b hb (List.mem_append_left _ (e ▸ ha))
      · exact n2.2.2 a ha b hb e
theorem Pst.refl (g : Same G H) (o : OwnS K mg G H σ ds f) (n : f.Nodup) : Pst K mg f G H σ ds [] [] G H := ⟨f, [], by simpa using Ext.refl g f, o, .nil, by simpa using n⟩
end
/-! ### readings of data -/
abbrev ME := DS → Option (D × DS)
abbrev MT := DS → Option (Bool × DS)
abbrev MA := DS → Option (List D × DS)
section
variable (K : PySem.W.Frag) (mg : Str → Option Value)
def tm (m : ME) : TE := fun σ H Q => ∃ G ds f d ds', Same G H ∧ OwnS K mg G H σ ds f ∧ f.Nodup ∧ m ds = some (d, ds') ∧ ∀ v G' H', Pst K mg f G H σ ds' [v] [d] G' H' → Q v H'
def tt (m : MT) : TT := fun σ H Q => ∃ G ds f b ds', Same G H ∧ OwnS K mg G H σ ds f ∧ f.Nodup ∧ m ds = some (b, ds') ∧ ∀ G' H', Pst K mg f G H σ ds' [] [] G' H' → Q b H'
def ta (m : MA) : TA := fun σ H Q => ∃ G ds f es ds', Same G H ∧ OwnS K mg G H σ ds f ∧ f.Nodup ∧ m ds = some (es, ds') ∧ ∀ vs G' H', Pst K mg f G H σ ds' vs es G' H' → Q vs H'
end
inductive Out where
  | nx (ds : DS) | bk (ds : DS) | ct (ds : DS) | rt (d : D) (ds : DS)
abbrev MS := DS → Option Out
def PostO (K : PySem.W.Frag) (mg : Str → Option Value) (E : Ends) (f : List Addr) (G H : Hp) (σ' : L2.St) : Out → Prop
  | .nx ds => ∀ G' H', Pst K mg f G H σ' ds [] [] G' H' → E.nx σ' H'
  | .bk ds => ∀ G' H', Pst K mg f G H σ' ds [] [] G' H' → E.bk σ' H'
  | .ct ds => ∀ G' H', Pst K mg f G H σ' ds [] [] G' H' → E.ct σ' H'
  | .rt d ds => ∀ v G' H', Pst K mg f G H σ' ds [v] [d] G' H' → E.rt v H'
/-- the slots fx stay bound as they are -/
def FixS (fx : Nat → Bool) (σ σ' : L2.St) : Prop := σ'.length = σ.length ∧ ∀ i, fx i = true → σ'[i]? = σ[i]?
theorem FixS.refl (fx : Nat → Bool) (σ : L2.St) : FixS fx σ σ := ⟨rfl, fun _ _ => rfl⟩
theorem FixS.trans {fx : Nat → Bool} {σ σ1 σ2 : L2.St} (a : FixS fx σ σ1) (b : FixS fx σ1 σ2) : FixS fx σ σ2 := ⟨b.1.trans a.1, fun i h => (b.2 i h).trans (a.2 i h)⟩
theorem FixS.set {fx : Nat → Bool} (σ : L2.St) {i : Nat} (o : Option V) (h : fx i = false) : FixS fx σ (σ.set i o) := ⟨List.length_set, fun j hj => by
  have : i ≠ j := fun e => by subst e; rw [h] at hj; cases hj
  rw [List.getElem?_set_ne this]⟩
def ts (K : PySem.W.Frag) (mg : Str → Option Value) (fx : Nat → Bool) (m : MS) : TS := fun E σ H => ∃ G ds f out, Same G H ∧ OwnS K mg G H σ ds f ∧ f.Nodup ∧ m ds = some out ∧ ∀ σ', FixS fx σ σ' → PostO K mg E f G H σ' out
theorem PE.mono {X : Cx} {e : Expr} {t t' : TE} (h : PE X e t) (k : ∀ σ H Q, t' σ H Q → t σ H Q) : PE X e t' := ⟨fun pins s σ H Q I q => h.run pins s σ H Q I (k σ H Q q)⟩
theorem PT.mono {X : Cx} {e : Expr} {t t' : TT} (h : PT X e t) (k : ∀ σ H Q, t' σ H Q → t σ H Q) : PT X e t' := ⟨fun pins s σ H Q I q => h.run pins s σ H Q I (k σ H Q q)⟩
theorem PA.mono {X : Cx} {e : List Expr} {t t' : TA} (h : PA X e t) (k : ∀ σ H Q, t' σ H Q → t σ H Q) : PA X e t' := ⟨fun pos pins s σ H Q I q => h.run pos pins s σ H Q I (k σ H Q q)⟩
theorem PS.mono {X : Cx} {e : Stmt} {t t' : TS} (h : PS X e t) (k : ∀ D σ H, t' D σ H → t D σ H) : PS X e t' := ⟨fun pins s σ H D I q => h.run pins s σ H D I (k D σ H q)⟩
theorem PSs.mono {X : Cx} {e : List Stmt} {t t' : TS} (h : PSs X e t) (k : ∀ D σ H, t' D σ H → t D σ H) : PSs X e t' := ⟨fun pins s σ H D I q => h.run pins s σ H D I (k D σ H q)⟩
abbrev XE (X : Cx) (e : Expr) (m : ME) : Prop := PE X e (tm X.K X.mg m)
abbrev XT (X : Cx) (e : Expr) (m : MT) : Prop := PT X e (tt X.K X.mg m)
abbrev XA (X : Cx) (e : List Expr) (m : MA) : Prop := PA X e (ta X.K X.mg m)
abbrev XS (X : Cx) (fx : Nat → Bool) (e : Stmt) (m : MS) : Prop := PS X e (ts X.K X.mg fx m)
abbrev XB (X : Cx) (fx : Nat → Bool) (e : List Stmt) (m : MS) : Prop := PSs X e (ts X.K X.mg fx m)
end Z
namespace Z
open PySem PySem.Spec L2
section
variable {K : PySem.W.Frag} {mg : Str → Option Value} {f f1 f2 : List Addr} {G H G1 H1 G2 H2 : Hp} {σ : L2.St} {ds ds1 ds2 : DS} {vs ws : List V} {es es2 : List D}
/-! ### values alone -/
def VPst (K : PySem.W.Frag) (mg : Str → Option Value) (f : List Addr) (G H : Hp) (vs : List V) (es : List D) (G' H' : Hp) : Prop :=
  ∃ f', Ext f G H f' G' H' ∧ Owns K mg G' H' vs es f' ∧ f'.Nodup
/-- from values to others, the slots aside -/
theorem Pst.map (x : Ext f G H (f1 ++ f2) G1 H1) (o1 : OwnS K mg G1 H1 σ ds f1) (n : (f1 ++ f2).Nodup) (p : VPst K mg f2 G1 H1 ws es2 G2 H2) : Pst K mg f G H σ ds ws es2 G2 H2 := by
  obtain ⟨g, y, o, m⟩ := p
  have hh := o1.here
  have nd : ∀ p ∈ f1, p ∉ f2 := fun p h q => nodup_disj n p q h
  have y' : Ext (f1 ++ f2) G1 H1 (f1 ++ g) G2 H2 := by
    have := y.frame f1 hh
    refine ⟨this.gh, this.gg, fun p o e q => this.keep p o e ?_, fun p q => ?_, fun p o g q e => this.gn p o g ?_ e⟩
    · simp only [List.mem_append] at q ⊢; exact fun h => q h.symm
    · have := this.fpn p (by simp only [List.mem_append] at q ⊢; exact q.symm)
      simp only [List.mem_append] at this ⊢; exact this.imp Or.symm id
    · simp only [List.mem_append] at q ⊢; exact fun h => q h.symm
  refine ⟨f1, g, x.trans y', o1.frame y.gg (y.aside hh nd), o, ?_⟩
  have ap := y.apart hh nd
  rw [List.nodup_append] at n ⊢
  exact ⟨n.1, m, fun a ha b hb e => ap a ha (e ▸ hb)⟩
theorem VPst.same (g : Same G H) (o : Owns K mg G H vs es f2) (hs : ∀ p ∈ f2, p ∈ f) (n : f2.Nodup) : VPst K mg f G H vs es G H := ⟨f2, (Ext.refl g f).less hs, o, n⟩
theorem VPst.val {x : V} (g : Same G H) : VPst K mg f G H [x] [.v x] G H := VPst.same g (.v .nil) (by simp) List.nodup_nil
/-- a new object, owned -/
theorem Ext.new {p : Addr} {o : HO} (g : Same G H) (h : H p = none) : Ext f G H (p :: f) G (upd H p o) where
  gh := fun b u e => by rw [upd_ne (ne_of_none (g b u e) h)]; exact g b u e
  gg := Same.refl G
  keep := fun b u e _ => by rw [upd_ne (ne_of_none e h)]; exact e
  fpn := fun b q => by rcases List.mem_cons.mp q with rfl | q; · exact .inr h
                       exact .inl q
  gn := fun _ _ e _ _ => e
/-- a new object, known at once -/
theorem Ext.newK {p : Addr} {o : HO} (g : Same G H) (h : H p = none) : Ext f G H f (upd G p o) (upd H p o) where
  gh := fun b u e => by
    by_cases hb : b = p
    · subst hb; rw [upd_same] at e ⊢; exact e
    · rw [upd_ne hb] at e ⊢; exact g b u e
  gg := fun b u e => by rw [upd_ne (ne_of_none (g b u e) h)]; exact e
  keep := fun b u e _ => by rw [upd_ne (ne_of_none e h)]; exact e
  fpn := fun b q => .inl q
  gn := fun b u e _ eh => by rw [upd_ne (ne_of_none eh h)]; exact e
theorem not_g {p : Addr} (g : Same G H) (h : H p = none) : G p = none := by
  cases e : G p with
  | none => rfl
  | some o => rw [g p o e] at h; cases h
end
/-! ### rules: constants, names -/
def mC (x : V) : ME := fun ds => some (.v x, ds)
def mVar (i : Nat) : ME := fun ds => match ds[i]? with
  | some (some d) => if clean d then some (d, ds) else if clean (fz d) then some (fz d, ds.set i (some (fz d))) else none
  | _ => none
def mMove (i : Nat) : ME := fun ds => match ds[i]? with
  | some (some d) => some (d, ds.set i none)
  | _ => none
section
variable {K : PySem.W.Frag} {mg : Str → Option Value} {X : Cx} {σ : L2.St} {H : Hp} {Q : VK}
theorem tm_c {x : V} (h : tm K mg (mC x) σ H Q) : Q x H := by
  obtain ⟨G, ds, f, d, ds', g, o, n, e, k⟩ := h
  cases e
  exact k _ G H (Pst.map (f1 := f) (f2 := []) (by simpa using Ext.refl g f) o (by simpa using n) (VPst.val g))
theorem clean_sing {d : D} (c : clean d = true) : cleans [d] = true := by simp [cleans, c]
theorem tm_var {i : Nat} (h : tm K mg (mVar i) σ H Q) : tVar i σ H Q := by
  obtain ⟨G, ds, f, d, ds', g, o, n, e, k⟩ := h
  unfold mVar at e
  split at e
  · rename_i d0 hi
    obtain ⟨v, fa, fb, fc, rfl, hv, ho, kk⟩ := o.split hi
    split at e
    · rename_i hc
      cases e
      have := ho.clean (clean_sing hc)
      subst this
      exact ⟨v, hv, k v G H (Pst.map (f1 := fa ++ [] ++ fc) (f2 := []) (by simpa using Ext.refl g _) o (by simpa using n) (VPst.same g ho (by simp) List.nodup_nil))⟩
    · split at e
      · rename_i hc hz
        cases e
        have hh := o.here
        have hb : ∀ a ∈ fb, (∃ o, H a = some o) ∧ G a = none := fun a h => hh a (by simp [h])
        let G' : Hp := fun a => if a ∈ fb then H a else G a
        have gG : Same G G' := fun b u e => by
          show (if b ∈ fb then H b else G b) = some u
          rw [if_neg (fun h => by have := (hb b h).2; rw [this] at e; cases e)]; exact e
        have gH : Same G' H := fun b u e => by
          by_cases h : b ∈ fb
          · have : G' b = H b := if_pos h
            rw [this] at e; exact e
          · have : G' b = G b := if_neg h
            rw [this] at e; exact g b u e
        have hk : ∀ a ∈ fb, ∀ u, H a = some u → G' a = some u := fun a h u e => by show (if a ∈ fb then H a else G a) = some u; rw [if_pos h]; exact e
        have hfz : Owns K mg G' H [v] [fz d0] [] := ho.freeze (clean_sing hz) gG hk
        have hn : ∀ a, a ∉ fb → G a = none → G' a = none := fun a h e => by show (if a ∈ fb then H a else G a) = none; rw [if_neg h]; exact e
        have nd1 : ∀ a, a ∈ fa ∨ a ∈ fc → a ∉ fb := by
          intro a ha hb
          simp only [List.nodup_append, List.mem_append] at n
          rcases ha with ha | ha
          · exact n.1.2.2 a ha a hb rfl
          · exact n.2.2 a (.inr hb) a ha rfl
        obtain ⟨_, k2⟩ := kk G' H gG fun a ha => ⟨fun o e => e, hn a (nd1 a ha) (hh a (by rcases ha with h | h <;> simp [h])).2⟩
        have ex : Ext (fa ++ fb ++ fc) G H (fa ++ fc) G' H := ⟨gH, gG, fun _ _ e _ => e, fun p hp => .inl (by simp only [List.mem_append] at hp ⊢; rcases hp with h | h <;> simp [h]), fun p u e q _ => hn p (fun h => q (by simp [h])) e⟩
        refine ⟨v, hv, k v G' H (Pst.map (f1 := fa ++ [] ++ fc) (f2 := []) (by simpa using ex) (k2 _ _ hfz) ?_ (VPst.same gH hfz (by simp) List.nodup_nil))⟩
        simp only [List.append_nil, List.nodup_append, List.mem_append] at n ⊢
        exact ⟨n.1.1, n.2.1, fun a ha b hb => n.2.2 a (.inl ha) b hb⟩
      · cases e
  · cases e
theorem tm_move {i : Nat} (h : tm K mg (mMove i) σ H Q) : tVar i σ H Q := by
  obtain ⟨G, ds, f, d, ds', g, o, n, e, k⟩ := h
  unfold mMove at e
  split at e
  · rename_i d0 hi
    obtain ⟨v, fa, fb, fc, rfl, hv, ho, kk⟩ := o.split hi
    cases e
    obtain ⟨k1, _⟩ := kk G H (Same.refl G) fun a ha => ⟨fun o e => e, (o.here a (by rcases ha with h | h <;> simp [h])).2⟩
    refine ⟨v, hv, k v G H ⟨fa ++ fc, fb, ?_, k1, ho, ?_⟩⟩
    · exact (Ext.refl g _).less (by intro p hp; simp only [List.mem_append] at hp ⊢; rcases hp with (h | h) | h <;> simp [h])
    · simp only [List.nodup_append, List.mem_append] at n ⊢
      exact ⟨⟨n.1.1, n.2.1, fun a ha b hb => n.2.2 a (.inl ha) b hb⟩, n.1.2.1, fun a ha b hb e => by
        rcases ha with ha | ha
        · exact n.1.2.2 a ha b hb e
        · exact n.2.2 b (.inr hb) a ha e.symm⟩
  · cases e
theorem xe_int {i j pos} : XE X (.Constant (.int i) j pos) (mC (.int i)) := PE.mono pe_int fun _ _ _ h => tm_c h
theorem xe_bl {b j pos} : XE X (.Constant (.bool b) j pos) (mC (.bl b)) := PE.mono pe_bl fun _ _ _ h => tm_c h
theorem xe_non {j pos} : XE X (.Constant .none j pos) (mC .non) := PE.mono pe_non fun _ _ _ h => tm_c h
theorem xe_str {x j pos} : XE X (.Constant (.str x) j pos) (mC (.str x)) := PE.mono pe_str fun _ _ _ h => tm_c h
theorem xv (i : Nat) {x : Str} {pos : Pos} (hN : X.N[i]? = some x := by rfl) (hv : Vis X.env.scope x := by first | exact Or.inl rfl | exact Or.inr (Or.inl rfl) | exact Or.inr (Or.inr rfl)) (hd : (x == ("__debug__" : Str)) = false := by decide) (hcd : (x == ("__classdict__" : Str)) = false := by decide) : XE X (.Name x pos) (mVar i) :=
  PE.mono (pe_var hN hv hd hcd) fun _ _ _ h => tm_var h
theorem xmv (i : Nat) {x : Str} {pos : Pos} (hN : X.N[i]? = some x := by rfl) (hv : Vis X.env.scope x := by first | exact Or.inl rfl | exact Or.inr (Or.inl rfl) | exact Or.inr (Or.inr rfl)) (hd : (x == ("__debug__" : Str)) = false := by decide) (hcd : (x == ("__classdict__" : Str)) = false := by decide) : XE X (.Name x pos) (mMove i) :=
  PE.mono (pe_var hN hv hd hcd) fun _ _ _ h => tm_move h
end
/-! ### two values to one -/
def OpD (K : PySem.W.Frag) (mg : Str → Option Value) (r : R2) (g : D → D → Option D) : Prop := ∀ (G H : Hp) (x y : V) (d e d' : D) (f : List Addr) (Q : VK), Same G H → Owns K mg G H [x, y] [d, e] f → f.Nodup → g d e = some d' →
  (∀ v G' H', VPst K mg f G H [v] [d'] G' H' → Q v H') → r x y H Q
def mOp (g : D → D → Option D) (ma mb : ME) : ME := fun ds => match ma ds with
  | some (d, ds1) => match mb ds1 with
    | some (e, ds2) => match g d e with
      | some d' => some (d', ds2)
      | none => none
    | none => none
  | none => none
def mTst (m : ME) : MT := fun ds => match m ds with
  | some (.v (.bl b), ds1) => some (b, ds1)
  | _ => none
section
variable {K : PySem.W.Frag} {mg : Str → Option Value} {X : Cx} {σ : L2.St} {H : Hp} {Q : VK} {r : R2} {g : D → D → Option D} {ma mb : ME}
theorem tm_op (hg : OpD K mg r g) (h : tm K mg (mOp g ma mb) σ H Q) : tOp r (tm K mg ma) (tm K mg mb) σ H Q := by
  obtain ⟨G, ds, f, d, ds', gh, o, n, e, k⟩ := h
  unfold mOp at e
  split at e
  · rename_i d1 ds1 e1
    split at e
    · rename_i d2 ds2 e2
      split at e
      · rename_i d3 e3
        cases e
        refine ⟨G, ds, f, d1, ds1, gh, o, n, e1, fun v1 G1 H1 p1 => ?_⟩
        obtain ⟨f1, f2, x1, o1, q1, n1⟩ := p1
        refine ⟨G1, ds1, f1, d2, ds', x1.gh, o1, (List.nodup_append.mp n1).1, e2, fun v2 G2 H2 p2 => ?_⟩
        obtain ⟨g1, g2, x2, o2, q2, n2⟩ := Pst.and x1 o1 q1 n1 p2
        exact hg G2 H2 v1 v2 d1 d2 d g2 _ x2.gh q2 (List.nodup_append.mp n2).2.1 e3 fun v G' H' p => k v G' H' (Pst.map x2 o2 n2 p)
      · cases e
    · cases e
  · cases e
theorem tt_tst {m : ME} {t : TE} (ht : ∀ Q, tm K mg m σ H Q → t σ H Q) {Q : Bool → Hp → Prop} (h : tt K mg (mTst m) σ H Q) : tTest t σ H Q := by
  obtain ⟨G, ds, f, b, ds', gh, o, n, e, k⟩ := h
  unfold mTst at e
  split at e
  · rename_i b1 ds1 e1
    cases e
    refine ht _ ⟨G, ds, f, _, _, gh, o, n, e1, fun v G1 H1 p1 => ?_⟩
    obtain ⟨f1, f2, x1, o1, q1, n1⟩ := p1
    cases q1 with
    | v q1 =>
      cases q1
      exact ⟨b, rfl, k G1 H1 ⟨f1, [], x1, o1, .nil, n1⟩⟩
  · cases e
theorem xe_op {op : Operator} {a b : Expr} {pos : Pos} (ho : OpR X (binaryOp op) r) (hg : OpD X.K X.mg r g) (ha : XE X a ma) (hb : XE X b mb) : XE X (.BinOp a op b pos) (mOp g ma mb) :=
  PE.mono (pe_op ho ha hb) fun _ _ _ h => tm_op hg h
theorem xe_cmp {op : CmpOp} {a b : Expr} {pos : Pos} (ho : OpR X (compareOp op) r) (hg : OpD X.K X.mg r g) (ha : XE X a ma) (hb : XE X b mb) (hm : behindInMarks op b = false) : XE X (.Compare a [op] [b] pos) (mOp g ma mb) :=
  PE.mono (pe_cmpR ho ha hb hm) fun _ _ _ h => tm_op hg h
theorem xt_cmp {op : CmpOp} {a b : Expr} {pos : Pos} (ho : OpR X (compareOp op) r) (hg : OpD X.K X.mg r g) (ha : XE X a ma) (hb : XE X b mb) (hm : behindInMarks op b = false) : XT X (.Compare a [op] [b] pos) (mTst (mOp g ma mb)) :=
  PT.mono (pt_cmpR ho ha hb hm) fun _ _ _ h => tt_tst (fun _ q => tm_op hg q) h
theorem xt_val {e : Expr} {m : ME} (h : XE X e m) (he : ∀ whole, isTrue e X.env whole = (do let v ← whole; standAt e.pos; holding [v] (truthy v)) := by intro _; rfl) : XT X e (mTst m) :=
  PT.mono (pt_val h he) fun _ _ _ q => tt_tst (fun _ q => q) q
/-! and, or, not -/
def mAnd (a b : MT) : MT := fun ds => match a ds with
  | some (true, ds1) => b ds1
  | some (false, ds1) => some (false, ds1)
  | none => none
def mOr (a b : MT) : MT := fun ds => match a ds with
  | some (true, ds1) => some (true, ds1)
  | some (false, ds1) => b ds1
  | none => none
def mNot (a : MT) : MT := fun ds => match a ds with
  | some (b, ds1) => some (!b, ds1)
  | none => none
theorem Pst.nil_trans {f f1 : List Addr} {G H G1 H1 G2 H2 : Hp} {ds2 : DS} {ws : List V} {es : List D} (x1 : Ext f G H (f1 ++ []) G1 H1) (p : Pst K mg f1 G1 H1 σ ds2 ws es G2 H2) : Pst K mg f G H σ ds2 ws es G2 H2 := by
  obtain ⟨g1, g2, y, q1, q2, n2⟩ := p
  exact ⟨g1, g2, (by simpa using x1 : Ext f G H f1 G1 H1).trans y, q1, q2, n2⟩
theorem tt_and {A B : MT} {Q : Bool → Hp → Prop} (h : tt K mg (mAnd A B) σ H Q) : tAnd (tt K mg A) (tt K mg B) σ H Q := by
  obtain ⟨G, ds, f, b, ds', gh, o, n, e, k⟩ := h
  unfold mAnd at e
  split at e
  · rename_i ds1 e1
    refine ⟨G, ds, f, true, ds1, gh, o, n, e1, fun G1 H1 p1 => ?_⟩
    obtain ⟨f1, f2, x1, o1, q1, n1⟩ := p1
    cases q1
    show tt K mg B σ H1 Q
    exact ⟨G1, ds1, f1, b, ds', x1.gh, o1, (List.nodup_append.mp n1).1, e, fun G2 H2 p2 => k G2 H2 (Pst.nil_trans x1 p2)⟩
  · rename_i ds1 e1
    cases e
    exact ⟨G, ds, f, false, _, gh, o, n, e1, fun G1 H1 p1 => k G1 H1 p1⟩
  · cases e
theorem tt_or {A B : MT} {Q : Bool → Hp → Prop} (h : tt K mg (mOr A B) σ H Q) : tOr (tt K mg A) (tt K mg B) σ H Q := by
  obtain ⟨G, ds, f, b, ds', gh, o, n, e, k⟩ := h
  unfold mOr at e
  split at e
  · rename_i ds1 e1
    cases e
    exact ⟨G, ds, f, true, _, gh, o, n, e1, fun G1 H1 p1 => k G1 H1 p1⟩
  · rename_i ds1 e1
    refine ⟨G, ds, f, false, ds1, gh, o, n, e1, fun G1 H1 p1 => ?_⟩
    obtain ⟨f1, f2, x1, o1, q1, n1⟩ := p1
    cases q1
    show tt K mg B σ H1 Q
    exact ⟨G1, ds1, f1, b, ds', x1.gh, o1, (List.nodup_append.mp n1).1, e, fun G2 H2 p2 => k G2 H2 (Pst.nil_trans x1 p2)⟩
  · cases e
theorem tt_not {A : MT} {Q : Bool → Hp → Prop} (h : tt K mg (mNot A) σ H Q) : tNot (tt K mg A) σ H Q := by
  obtain ⟨G, ds, f, b, ds', gh, o, n, e, k⟩ := h
  unfold mNot at e
  split at e
  · rename_i b1 ds1 e1
    cases e
    exact ⟨G, ds, f, b1, _, gh, o, n, e1, fun G1 H1 p1 => k G1 H1 p1⟩
  · cases e
abbrev XW (X : Cx) (e : Expr) (m : MT) : Prop := PW X e (tt X.K X.mg m)
variable {a b : Expr} {rest : List Expr} {pos : Pos} {A B : MT}
theorem PW.mono {X : Cx} {e : Expr} {t t' : TT} (h : PW X e t) (k : ∀ σ H Q, t' σ H Q → t σ H Q) : PW X e t' := ⟨fun w pins s σ H Q I q => h.run w pins s σ H Q I (k σ H Q q)⟩
theorem xw_and1 (ha : XT X a A) : XW X (.BoolOp .And [a] pos) A := pw_and1 ha
theorem xw_or1 (ha : XT X a A) : XW X (.BoolOp .Or [a] pos) A := pw_or1 ha
theorem xw_and (ha : XT X a A) (hb : XW X (.BoolOp .And (b :: rest) pos) B) : XW X (.BoolOp .And (a :: b :: rest) pos) (mAnd A B) := PW.mono (pw_and ha hb) fun _ _ _ h => tt_and h
theorem xw_or (ha : XT X a A) (hb : XW X (.BoolOp .Or (b :: rest) pos) B) : XW X (.BoolOp .Or (a :: b :: rest) pos) (mOr A B) := PW.mono (pw_or ha hb) fun _ _ _ h => tt_or h
theorem xt_w {e : Expr} (h : XW X e A) : XT X e A := PW.pt h
theorem xt_not (ha : XT X a A) : XT X (.UnaryOp .Not a pos) (mNot A) := PT.mono (pt_not ha) fun _ _ _ h => tt_not h
end
end Z
namespace Z
open PySem PySem.Spec L2
section
variable {K : PySem.W.Frag} {mg : Str → Option Value} {f f1 f2 : List Addr} {G H G1 H1 G2 H2 : Hp} {σ : L2.St} {ds ds1 ds2 : DS} {vs ws : List V} {es es2 : List D} {x y : V} {d e : D}
/-! ### what stands behind a datum -/
theorem Owns.two (h : Owns K mg G H [x, y] [d, e] f) : ∃ f1 f2, f = f1 ++ f2 ∧ Owns K mg G H [x] [d] f1 ∧ Owns K mg G H [y] [e] f2 := by
  obtain ⟨f1, f2, e, h1, h2⟩ := h.cons_inv
  exact ⟨f1, f2, e, h1, h2⟩
theorem Owns.v_inv {w : V} (h : Owns K mg G H [x] [.v w] f) : x = w ∧ f = [] := by
  cases h with
  | v h => cases h; exact ⟨rfl, rfl⟩
theorem Owns.tup_inv (h : Owns K mg G H [x] [.tup es] f) (g : Same G H) : ∃ a xs, x = .ref a ∧ SqT K H a xs ∧ SqT K G a xs ∧ Owns K mg G H xs es f := by
  cases h with
  | tup e a b => cases b; exact ⟨_, _, rfl, .inl (.inl (g _ _ e)), .inl (.inl e), by simpa using a⟩
theorem Owns.tupH_inv (h : Owns K mg G H [x] [.tup es] f) (g : Same G H) : ∃ a xs, x = .ref a ∧ H a = some (.tup xs) ∧ G a = some (.tup xs) ∧ Owns K mg G H xs es f := by
  cases h with
  | tup e a b => cases b; exact ⟨_, _, rfl, g _ _ e, e, by simpa using a⟩
theorem Owns.ktp_inv (h : Owns K mg G H [x] [.ktp es] f) (g : Same G H) : ∃ a xs, x = .ref a ∧ SqT K H a xs ∧ SqT K G a xs ∧ Owns K mg G H xs es f := by
  cases h with
  | kt e a b => cases b; exact ⟨_, _, rfl, sqT_mono g e, e, by simpa using a⟩
theorem Owns.lst_inv {o : O} (h : Owns K mg G H [x] [.lst o es] f) (g : Same G H) : ∃ a xs f', x = .ref a ∧ SqL K H a xs ∧ Owns K mg G H xs es f' ∧ (∀ p ∈ f', p ∈ f) ∧ (f.Nodup → f'.Nodup) := by
  cases h with
  | el e a b => cases b; exact ⟨_, _, _, rfl, sqL_mono g e, a, by simp, by simp⟩
  | fl e a b => cases b; exact ⟨_, _, _, rfl, .inl (.inl (g _ _ e)), a, by simp, by simp⟩
  | ol e n a b => cases b; exact ⟨_, _, _, rfl, .inl (.inl e), a, by simp; intro p h; exact .inr h, fun q => by simpa using (List.nodup_cons.mp q).2⟩
theorem Owns.lstH_inv {o : O} (h : Owns K mg G H [x] [.lst o es] f) (g : Same G H) (ho : o ≠ .ext) : ∃ a xs f', x = .ref a ∧ H a = some (.lst xs) ∧ Owns K mg G H xs es f' ∧ (∀ p ∈ f', p ∈ f) ∧ (f.Nodup → f'.Nodup) := by
  cases h with
  | el e a b => exact absurd rfl ho
  | fl e a b => cases b; exact ⟨_, _, _, rfl, g _ _ e, a, by simp, by simp⟩
  | ol e n a b => cases b; exact ⟨_, _, _, rfl, e, a, by simp; intro p h; exact .inr h, fun q => by simpa using (List.nodup_cons.mp q).2⟩
theorem Owns.own_inv (h : Owns K mg G H [x] [.lst .own es] f) : ∃ a xs f', x = .ref a ∧ H a = some (.lst xs) ∧ G a = none ∧ Owns K mg G H xs es f' ∧ f = a :: f' := by
  cases h with
  | ol e n a b => cases b; exact ⟨_, _, _, rfl, e, n, a, by simp⟩
/-- an item -/
theorem Owns.item (h : Owns K mg G H vs es f) : ∀ {j : Nat} {d : D}, es[j]? = some d → ∃ v f', vs[j]? = some v ∧ Owns K mg G H [v] [d] f' ∧ (∀ p ∈ f', p ∈ f) ∧ (f.Nodup → f'.Nodup) := by
  have key : ∀ (vs : List V) (es : List D) (f : List Addr), Owns K mg G H vs es f → ∀ {j : Nat} {d : D}, es[j]? = some d → ∃ v f', vs[j]? = some v ∧ Owns K mg G H [v] [d] f' ∧ (∀ p ∈ f', p ∈ f) ∧ (f.Nodup → f'.Nodup) := by
    intro vs es
    induction es generalizing vs with
    | nil => intro f h j d e; simp at e
    | cons d0 es ih =>
      intro f h j d e
      cases vs with
      | nil => cases h
      | cons v vs =>
        obtain ⟨f1, f2, rfl, h1, h2⟩ := h.cons_inv
        cases j with
        | zero =>
          have : d0 = d := by simpa using e
          subst this
          exact ⟨v, f1, rfl, h1, fun p q => List.mem_append_left _ q, fun n => (List.nodup_append.mp n).1⟩
        | succ j =>
          obtain ⟨w, f', a, b, c, n⟩ := ih vs f2 h2 (by simpa using e)
          exact ⟨w, f', by simpa using a, b, fun p q => List.mem_append_right _ (c p q), fun m => n (List.nodup_append.mp m).2.1⟩
  intro j d e
  exact key vs es f h e
theorem Owns.fresh (h : Owns K mg G H vs es f) (g : Same G H) {p : Addr} {o : HO} (n : H p = none) : Owns K mg G (upd H p o) vs es f := h.frame (Same.refl G) fun a ha => ⟨fun u e => by rw [upd_ne (ne_of_none e n)]; exact e, (h.here a ha).2⟩
theorem Owns.freshK (h : Owns K mg G H vs es f) (g : Same G H) {p : Addr} {o : HO} (n : H p = none) : Owns K mg (upd G p o) (upd H p o) vs es f := h.frame (fun b u e => by rw [upd_ne (ne_of_none (g b u e) n)]; exact e) fun a ha =>
  let ⟨⟨u, e⟩, q⟩ := h.here a ha
  ⟨fun u e => by rw [upd_ne (ne_of_none e n)]; exact e, by rw [upd_ne (ne_of_none e n)]; exact q⟩
/-- a new list of these, owned -/
theorem VPst.newL {p : Addr} (g : Same G H) (o : Owns K mg G H vs es f2) (hs : ∀ a ∈ f2, a ∈ f) (n : f2.Nodup) (h : H p = none) : VPst K mg f G H [.ref p] [.lst .own es] G (upd H p (.lst vs)) := by
  refine ⟨p :: (f2 ++ []), ?_, .ol upd_same (not_g g h) (o.fresh g h) .nil, ?_⟩
  · refine (Ext.new (f := f) g h).less ?_
    intro a ha
    rcases List.mem_cons.mp ha with rfl | ha
    · exact List.mem_cons_self
    · exact List.mem_cons_of_mem _ (hs a (by simpa using ha))
  · rw [List.append_nil, List.nodup_cons]
    refine ⟨fun hp => ?_, n⟩
    obtain ⟨u, e⟩ := (o.here p hp).1
    rw [h] at e; cases e
/-- a new tuple of these -/
theorem VPst.newT {p : Addr} (g : Same G H) (o : Owns K mg G H vs es f2) (hs : ∀ a ∈ f2, a ∈ f) (n : f2.Nodup) (h : H p = none) : VPst K mg f G H [.ref p] [.tup es] (upd G p (.tup vs)) (upd H p (.tup vs)) := by
  refine ⟨f2 ++ [], ?_, .tup upd_same (o.freshK g h) .nil, by simpa using n⟩
  exact (Ext.newK (f := f) g h).less fun a ha => hs a (by simpa using ha)
/-! ### as the library's data -/
mutual
def py : D → Option PyData
  | .v .non => some .none
  | .v (.bl b) => some (.bool b)
  | .v (.int i) => some (.int i)
  | .v (.str s) => some (.str s)
  | .tup ds => (pys ds).map .tuple
  | .lst _ ds => (pys ds).map .list
  | _ => none
def pys : List D → Option (List PyData)
  | [] => some []
  | d :: ds => match py d, pys ds with
    | some p, some q => some (p :: q)
    | _, _ => none
end
theorem Owns.dp (h : Owns K mg G H vs es f) (g : Same G H) {ps : List PyData} (e : pys es = some ps) : DpAll K H vs ps := by
  induction h generalizing ps with
  | nil => simp only [pys] at e; cases e; exact .nil
  | @v x vs ds f h ih =>
    rw [pys] at e
    cases hp : py (.v x) with
    | none => rw [hp] at e; cases e
    | some p =>
      cases hq : pys ds with
      | none => rw [hp, hq] at e; cases e
      | some q =>
        rw [hp, hq] at e; cases e
        refine .cons ?_ (ih hq)
        cases x <;> simp only [py] at hp <;> cases hp
        · exact .non
        · exact .bl _
        · exact .int _
        · exact .str _
  | @tup a xs vs es ds f1 f2 hs _ _ i1 i2 =>
    rw [pys] at e
    cases hp : py (.tup es) with
    | none => rw [hp] at e; cases e
    | some p =>
      cases hq : pys ds with
      | none => rw [hp, hq] at e; cases e
      | some q =>
        rw [hp, hq] at e; cases e
        rw [py] at hp
        cases hr : pys es with
        | none => rw [hr] at hp; cases hp
        | some r => rw [hr] at hp; cases hp; exact .cons (.tup (.inl (.inl (g _ _ hs))) (i1 hr)) (i2 hq)
  | @el a xs vs es ds f1 f2 hs _ _ i1 i2 =>
    rw [pys] at e
    cases hp : py (.lst .ext es) with
    | none => rw [hp] at e; cases e
    | some p =>
      cases hq : pys ds with
      | none => rw [hp, hq] at e; cases e
      | some q =>
        rw [hp, hq] at e; cases e
        rw [py] at hp
        cases hr : pys es with
        | none => rw [hr] at hp; cases hp
        | some r => rw [hr] at hp; cases hp; exact .cons (.lst (sqL_mono g hs) (i1 hr)) (i2 hq)
  | @fl a xs vs es ds f1 f2 hs _ _ i1 i2 =>
    rw [pys] at e
    cases hp : py (.lst .fro es) with
    | none => rw [hp] at e; cases e
    | some p =>
      cases hq : pys ds with
      | none => rw [hp, hq] at e; cases e
      | some q =>
        rw [hp, hq] at e; cases e
        rw [py] at hp
        cases hr : pys es with
        | none => rw [hr] at hp; cases hp
        | some r => rw [hr] at hp; cases hp; exact .cons (.lst (.inl (.inl (g _ _ hs))) (i1 hr)) (i2 hq)
  | @ol a xs vs es ds f1 f2 hs _ _ _ i1 i2 =>
    rw [pys] at e
    cases hp : py (.lst .own es) with
    | none => rw [hp] at e; cases e
    | some p =>
      cases hq : pys ds with
      | none => rw [hp, hq] at e; cases e
      | some q =>
        rw [hp, hq] at e; cases e
        rw [py] at hp
        cases hr : pys es with
        | none => rw [hr] at hp; cases hp
        | some r => rw [hr] at hp; cases hp; exact .cons (.lst (.inl (.inl hs)) (i1 hr)) (i2 hq)
  | kt | fd | od | ft | ot | oi => simp [pys, py] at e
theorem Owns.dp1 (h : Owns K mg G H [x] [d] f) (g : Same G H) {p : PyData} (e : py d = some p) : Dp K H x p := by
  have := h.dp g (ps := [p]) (by simp [pys, e])
  cases this with
  | cons a _ => exact a
/-! ### operators -/
def dInt2 (g : Int → Int → V) : D → D → Option D
  | .v (.int i), .v (.int j) => some (.v (g i j))
  | _, _ => none
def dInt2C (C : Int → Int → Bool) (g : Int → Int → V) : D → D → Option D
  | .v (.int i), .v (.int j) => if C i j then some (.v (g i j)) else none
  | _, _ => none
theorem opd_int {g : Int → Int → V} : OpD K mg (rI0 g) (dInt2 g) := by
  intro G H x y d e d' f Q gh h n q k
  unfold dInt2 at q
  split at q
  · cases q
    obtain ⟨f1, f2, rfl, h1, h2⟩ := h.two
    obtain ⟨rfl, rfl⟩ := h1.v_inv
    obtain ⟨rfl, rfl⟩ := h2.v_inv
    exact ⟨_, _, rfl, rfl, k _ G H (VPst.val gh)⟩
  · cases q
theorem opd_intC {C : Int → Int → Bool} {C' : Int → Int → Prop} {g : Int → Int → V} (hc : ∀ i j, C i j = true → C' i j) : OpD K mg (rI C' g) (dInt2C C g) := by
  intro G H x y d e d' f Q gh h n q k
  unfold dInt2C at q
  split at q
  · split at q
    · rename_i c
      cases q
      obtain ⟨f1, f2, rfl, h1, h2⟩ := h.two
      obtain ⟨rfl, rfl⟩ := h1.v_inv
      obtain ⟨rfl, rfl⟩ := h2.v_inv
      exact ⟨_, _, rfl, rfl, hc _ _ c, k _ G H (VPst.val gh)⟩
    · cases q
  · cases q
theorem opd_or {r1 r2 : R2} {g1 g2 g : D → D → Option D} (h1 : OpD K mg r1 g1) (h2 : OpD K mg r2 g2) (h : ∀ d e d', g d e = some d' → g1 d e = some d' ∨ g2 d e = some d') : OpD K mg (fun x y H Q => r1 x y H Q ∨ r2 x y H Q) g := by
  intro G H x y d e d' f Q gh o n q k
  rcases h d e d' q with q | q
  · exact .inl (h1 G H x y d e d' f Q gh o n q k)
  · exact .inr (h2 G H x y d e d' f Q gh o n q k)
def cMul (i j : Int) : Bool := decide ((-(2 ^ 64) < i ∧ i < 2 ^ 64) ∨ (-(2 ^ 64) < j ∧ j < 2 ^ 64) ∨ i.natAbs.log2 + j.natAbs.log2 < 1000000)
def dMul : D → D → Option D := dInt2C cMul fun i j => .int (i * j)
theorem opd_mul : OpD K mg (fun x y H Q => (rI CMul fun i j => .int (i * j)) x y H Q ∨ (rI CMulW fun i j => .int (i * j)) x y H Q) dMul := by
  intro G H x y d e d' f Q gh h n q k
  unfold dMul dInt2C at q
  split at q
  · split at q
    · rename_i c
      cases q
      obtain ⟨f1, f2, rfl, h1, h2⟩ := h.two
      obtain ⟨rfl, rfl⟩ := h1.v_inv
      obtain ⟨rfl, rfl⟩ := h2.v_inv
      have c' := of_decide_eq_true c
      rcases c' with c' | c' | c'
      · exact .inl ⟨_, _, rfl, rfl, .inl c', k _ G H (VPst.val gh)⟩
      · exact .inl ⟨_, _, rfl, rfl, .inr c', k _ G H (VPst.val gh)⟩
      · exact .inr ⟨_, _, rfl, rfl, c', k _ G H (VPst.val gh)⟩
    · cases q
  · cases q
def dFdiv : D → D → Option D := dInt2C (fun _ j => decide (0 < j ∧ j.natAbs.log2 < 9000)) fun i j => .int (i / j)
def dMod : D → D → Option D := dInt2C (fun _ j => decide (0 < j)) fun i j => .int (i % j)
def dPow : D → D → Option D := dInt2C (fun i j => decide (0 ≤ j ∧ j ≤ 1000000 ∧ i.natAbs < 2 ^ 64)) fun i j => .int (i ^ j.toNat)
def dShr : D → D → Option D := dInt2C (fun _ j => decide (0 ≤ j)) fun i j => .int (i / 2 ^ j.toNat)
def dSub : D → D → Option D := dInt2 fun i j => .int (i - j)
def dAdd : D → D → Option D
  | .v (.int i), .v (.int j) => some (.v (.int (i + j)))
  | .v (.str i), .v (.str j) => if i.length + j.length ≤ 16777216 then some (.v (.str (i ++ j))) else none
  | .lst o xs, .lst o2 ys => if o ≠ .ext ∧ o2 ≠ .ext ∧ xs.length + ys.length ≤ 16777216 then some (.lst .own (xs ++ ys)) else none
  | .tup xs, .tup ys => if xs.length + ys.length ≤ 16777216 then some (.tup (xs ++ ys)) else none
  | _, _ => none
def rAddA (K : PySem.W.Frag) : R2 := fun x y H Q => (rI0 fun i j => .int (i + j)) x y H Q ∨ ((∃ i j, x = .str i ∧ y = .str j ∧ i.length + j.length ≤ sizeLine ∧ Q (.str (i ++ j)) H) ∨ (rCat x y H Q ∨ rCatA K x y H Q))
theorem line : (16777216 : Nat) = sizeLine := sizeLine_eq.symm
theorem opd_add : OpD K mg (rAddA K) dAdd := by
  intro G H x y d e d' f Q gh h n q k
  obtain ⟨f1, f2, rfl, h1, h2⟩ := h.two
  have nn := List.nodup_append.mp n
  unfold dAdd at q
  split at q
  · cases q
    obtain ⟨rfl, rfl⟩ := h1.v_inv
    obtain ⟨rfl, rfl⟩ := h2.v_inv
    exact .inl ⟨_, _, rfl, rfl, k _ G H (VPst.val gh)⟩
  · split at q
    · rename_i c
      cases q
      obtain ⟨rfl, rfl⟩ := h1.v_inv
      obtain ⟨rfl, rfl⟩ := h2.v_inv
      exact .inr (.inl ⟨_, _, rfl, rfl, line ▸ c, k _ G H (VPst.val gh)⟩)
    · cases q
  · split at q
    · rename_i c
      cases q
      obtain ⟨a, xs, g1, rfl, e1, w1, s1, m1⟩ := h1.lstH_inv gh c.1
      obtain ⟨b, ys, g2, rfl, e2, w2, s2, m2⟩ := h2.lstH_inv gh c.2.1
      refine .inr (.inr (.inl ⟨a, b, xs, ys, rfl, rfl, e1, e2, ?_, fun p hp => k _ _ _ (VPst.newL gh (w1.append w2) ?_ ?_ hp)⟩))
      · rw [w1.length, w2.length]; exact line ▸ c.2.2
      · intro p hp
        rcases List.mem_append.mp hp with hp | hp
        · exact List.mem_append_left _ (s1 p hp)
        · exact List.mem_append_right _ (s2 p hp)
      · rw [List.nodup_append]
        exact ⟨m1 nn.1, m2 nn.2.1, fun a ha b hb => nn.2.2 a (s1 a ha) b (s2 b hb)⟩
    · cases q
  · split at q
    · rename_i ex ey c
      cases q
      obtain ⟨a, xs, rfl, e1, e1', w1⟩ := h1.tup_inv gh
      obtain ⟨b, ys, rfl, e2, e2', w2⟩ := h2.tup_inv gh
      refine .inr (.inr (.inr ⟨a, b, xs, ys, rfl, rfl, e1, e2, ?_, fun z => ?_, fun _ z => ?_, fun _ _ p hp => k _ _ _ (VPst.newT gh (w1.append w2) (fun p hp => hp) n hp)⟩))
      · rw [w1.length, w2.length]; exact line ▸ c
      · subst z
        have z1 : ex = [] := List.eq_nil_of_length_eq_zero w1.length.symm
        subst z1
        cases w1
        exact k _ G H (VPst.same gh h2 (by simp) (by simpa using n))
      · subst z
        have z1 : ey = [] := List.eq_nil_of_length_eq_zero w2.length.symm
        subst z1
        cases w2
        have h1' : Owns K mg G H [.ref a] [.tup (ex ++ [])] f1 := by simpa using h1
        exact k _ G H (VPst.same gh h1' (by simp) (by simpa using n))
    · cases q
  · cases q
theorem opr_add {X : Cx} : OpR X (binaryOp .Add) (rAddA X.K) := op_add.or (op_add_str.or (op_cat.or op_catA))
/-! equality -/
def dEqB (d e : D) : Option Bool := match d, e with
  | .v x, .v y => if scal x y then some (decide (x = y)) else none
  | d, e => match py d, py e with
    | some p, some q => if SeqAt.shaped p && SeqAt.shaped q then some (PyData.eqv p q) else none
    | _, _ => none
def dEq (d e : D) : Option D := (dEqB d e).map fun b => .v (.bl b)
def dNe (d e : D) : Option D := (dEqB d e).map fun b => .v (.bl (!b))
theorem opd_eq : OpD K mg (fun x y H Q => rEq x y H Q ∨ rEqD K x y H Q) dEq := by
  intro G H x y d e d' f Q gh h n q k
  obtain ⟨f1, f2, rfl, h1, h2⟩ := h.two
  unfold dEq dEqB at q
  split at q
  · split at q
    · rename_i c
      cases q
      obtain ⟨rfl, rfl⟩ := h1.v_inv
      obtain ⟨rfl, rfl⟩ := h2.v_inv
      exact .inl ⟨c, k _ G H (VPst.val gh)⟩
    · cases q
  · split at q
    · rename_i p r e1 e2
      split at q
      · rename_i c
        cases q
        rw [Bool.and_eq_true] at c
        exact .inr ⟨p, r, h1.dp1 gh e1, h2.dp1 gh e2, c.1, c.2, k _ G H (VPst.val gh)⟩
      · cases q
    · cases q
theorem opd_ne : OpD K mg (fun x y H Q => rNe x y H Q ∨ rNeD K x y H Q) dNe := by
  intro G H x y d e d' f Q gh h n q k
  obtain ⟨f1, f2, rfl, h1, h2⟩ := h.two
  unfold dNe dEqB at q
  split at q
  · split at q
    · rename_i c
      cases q
      obtain ⟨rfl, rfl⟩ := h1.v_inv
      obtain ⟨rfl, rfl⟩ := h2.v_inv
      exact .inl ⟨c, k _ G H (VPst.val gh)⟩
    · cases q
  · split at q
    · rename_i p r e1 e2
      split at q
      · rename_i c
        cases q
        rw [Bool.and_eq_true] at c
        exact .inr ⟨p, r, h1.dp1 gh e1, h2.dp1 gh e2, c.1, c.2, k _ G H (VPst.val gh)⟩
      · cases q
    · cases q
end
section
variable {X : Cx} {a b : Expr} {pos : Pos} {ma mb : ME}
theorem xe_add (ha : XE X a ma) (hb : XE X b mb) : XE X (.BinOp a .Add b pos) (mOp dAdd ma mb) := xe_op opr_add opd_add ha hb
theorem xe_sub (ha : XE X a ma) (hb : XE X b mb) : XE X (.BinOp a .Sub b pos) (mOp dSub ma mb) := xe_op op_sub opd_int ha hb
theorem xe_mul (ha : XE X a ma) (hb : XE X b mb) : XE X (.BinOp a .Mult b pos) (mOp dMul ma mb) := xe_op (op_mul.or op_mulW) opd_mul ha hb
theorem xe_fdiv (ha : XE X a ma) (hb : XE X b mb) : XE X (.BinOp a .FloorDiv b pos) (mOp dFdiv ma mb) := xe_op op_fdivW (opd_intC fun i j h => show 0 < j ∧ j.natAbs.log2 < 9000 from of_decide_eq_true h) ha hb
theorem xe_mod (ha : XE X a ma) (hb : XE X b mb) : XE X (.BinOp a .Mod b pos) (mOp dMod ma mb) := xe_op op_mod (opd_intC fun _ _ h => of_decide_eq_true h) ha hb
theorem xe_pow (ha : XE X a ma) (hb : XE X b mb) : XE X (.BinOp a .Pow b pos) (mOp dPow ma mb) := xe_op op_pow (opd_intC fun i j h => show 0 ≤ j ∧ j ≤ 1000000 ∧ i.natAbs < 2 ^ 64 from of_decide_eq_true h) ha hb
theorem xe_shr (ha : XE X a ma) (hb : XE X b mb) : XE X (.BinOp a .RShift b pos) (mOp dShr ma mb) := xe_op op_shr (opd_intC fun _ _ h => of_decide_eq_true h) ha hb
def dLt : D → D → Option D := dInt2 fun i j => .bl (decide (i < j))
def dLe : D → D → Option D := dInt2 fun i j => .bl (decide (i ≤ j))
def dGt : D → D → Option D := dInt2 fun i j => .bl (decide (j < i))
def dGe : D → D → Option D := dInt2 fun i j => .bl (decide (j ≤ i))
theorem xe_lt (ha : XE X a ma) (hb : XE X b mb) : XE X (.Compare a [.Lt] [b] pos) (mOp dLt ma mb) := xe_cmp op_lt opd_int ha hb (nomark _)
theorem xe_le (ha : XE X a ma) (hb : XE X b mb) : XE X (.Compare a [.LtE] [b] pos) (mOp dLe ma mb) := xe_cmp op_le opd_int ha hb (nomark _)
theorem xe_gt (ha : XE X a ma) (hb : XE X b mb) : XE X (.Compare a [.Gt] [b] pos) (mOp dGt ma mb) := xe_cmp op_gt opd_int ha hb (nomark _)
theorem xe_ge (ha : XE X a ma) (hb : XE X b mb) : XE X (.Compare a [.GtE] [b] pos) (mOp dGe ma mb) := xe_cmp op_ge opd_int ha hb (nomark _)
theorem xe_eq (hu : X.A.units + 64 < cLine) (ha : XE X a ma) (hb : XE X b mb) : XE X (.Compare a [.Eq] [b] pos) (mOp dEq ma mb) := xe_cmp (op_eq.or (op_eqD hu)) opd_eq ha hb (nomark _)
theorem xe_ne (hu : X.A.units + 64 < cLine) (ha : XE X a ma) (hb : XE X b mb) : XE X (.Compare a [.NotEq] [b] pos) (mOp dNe ma mb) := xe_cmp (op_ne.or (op_neD hu)) opd_ne ha hb (nomark _)
theorem xt_lt (ha : XE X a ma) (hb : XE X b mb) : XT X (.Compare a [.Lt] [b] pos) (mTst (mOp dLt ma mb)) := xt_cmp op_lt opd_int ha hb (nomark _)
theorem xt_le (ha : XE X a ma) (hb : XE X b mb) : XT X (.Compare a [.LtE] [b] pos) (mTst (mOp dLe ma mb)) := xt_cmp op_le opd_int ha hb (nomark _)
theorem xt_gt (ha : XE X a ma) (hb : XE X b mb) : XT X (.Compare a [.Gt] [b] pos) (mTst (mOp dGt ma mb)) := xt_cmp op_gt opd_int ha hb (nomark _)
theorem xt_ge (ha : XE X a ma) (hb : XE X b mb) : XT X (.Compare a [.GtE] [b] pos) (mTst (mOp dGe ma mb)) := xt_cmp op_ge opd_int ha hb (nomark _)
theorem xt_eq (hu : X.A.units + 64 < cLine) (ha : XE X a ma) (hb : XE X b mb) : XT X (.Compare a [.Eq] [b] pos) (mTst (mOp dEq ma mb)) := xt_cmp (op_eq.or (op_eqD hu)) opd_eq ha hb (nomark _)
theorem xt_ne (hu : X.A.units + 64 < cLine) (ha : XE X a ma) (hb : XE X b mb) : XT X (.Compare a [.NotEq] [b] pos) (mTst (mOp dNe ma mb)) := xt_cmp (op_ne.or (op_neD hu)) opd_ne ha hb (nomark _)
end
end Z
namespace Z
open PySem PySem.Spec L2
section
variable {K : PySem.W.Frag} {mg : Str → Option Value} {f f1 f2 : List Addr} {G H G1 H1 G2 H2 : Hp} {σ : L2.St} {ds ds1 ds2 : DS} {vs ws : List V} {es es2 : List D} {x y : V} {d e : D} {X : Cx} {Q : VK}
/-! ### arguments, displays -/
def mNil : MA := fun ds => some ([], ds)
def mCons (m : ME) (r : MA) : MA := fun ds => match m ds with
  | some (d, ds1) => match r ds1 with
    | some (es, ds2) => some (d :: es, ds2)
    | none => none
  | none => none
theorem ta_nil {Q : List V → Hp → Prop} (h : ta K mg mNil σ H Q) : tNil σ H Q := by
  obtain ⟨G, ds, f, es, ds', g, o, n, e, k⟩ := h
  cases e
  exact k [] G H (Pst.refl g o n)
theorem ta_cons {m : ME} {r : MA} {Q : List V → Hp → Prop} (h : ta K mg (mCons m r) σ H Q) : tCons (tm K mg m) (ta K mg r) σ H Q := by
  obtain ⟨G, ds, f, es, ds', g, o, n, e, k⟩ := h
  unfold mCons at e
  split at e
  · rename_i d ds1 e1
    split at e
    · rename_i es1 ds2 e2
      cases e
      refine ⟨G, ds, f, d, ds1, g, o, n, e1, fun v G1 H1 p1 => ?_⟩
      obtain ⟨f1, f2, x1, o1, q1, n1⟩ := p1
      exact ⟨G1, ds1, f1, es1, _, x1.gh, o1, (List.nodup_append.mp n1).1, e2, fun vs G2 H2 p2 => k _ _ _ (Pst.and x1 o1 q1 n1 p2)⟩
    · cases e
  · cases e
theorem xa_nil : XA X [] mNil := PA.mono pa_nil fun _ _ _ h => ta_nil h
theorem xa_cons {e : Expr} {es : List Expr} {m : ME} {r : MA} (ha : XE X e m) (hr : XA X es r) (hs : starEach (e :: es) X.env = (false, eval e X.env) :: starEach es X.env := by rfl) : XA X (e :: es) (mCons m r) :=
  PA.mono (pa_cons ha hr hs) fun _ _ _ h => ta_cons h
/-- of some values one: by what is asked of the values alone -/
def CallD (K : PySem.W.Frag) (mg : Str → Option Value) (r : List V → Hp → VK → Prop) (g : List D → Option D) : Prop := ∀ (G H : Hp) (xs : List V) (es : List D) (d' : D) (f : List Addr) (Q : VK), Same G H → Owns K mg G H xs es f → f.Nodup → g es = some d' →
  (∀ v G' H', VPst K mg f G H [v] [d'] G' H' → Q v H') → r xs H Q
def mFn (g : List D → Option D) (m : MA) : ME := fun ds => match m ds with
  | some (es, ds1) => match g es with
    | some d => some (d, ds1)
    | none => none
  | none => none
theorem tm_fn {r : List V → Hp → VK → Prop} {g : List D → Option D} {m : MA} (hg : CallD K mg r g) (h : tm K mg (mFn g m) σ H Q) : ta K mg m σ H fun xs H1 => r xs H1 Q := by
  obtain ⟨G, ds, f, d, ds', gh, o, n, e, k⟩ := h
  unfold mFn at e
  split at e
  · rename_i es ds1 e1
    split at e
    · rename_i d1 e2
      cases e
      refine ⟨G, ds, f, es, _, gh, o, n, e1, fun vs G1 H1 p1 => ?_⟩
      obtain ⟨f1, f2, x1, o1, q1, n1⟩ := p1
      exact hg G1 H1 vs es d f2 Q x1.gh q1 (List.nodup_append.mp n1).2.1 e2 fun v G' H' p => k v G' H' (Pst.map x1 o1 n1 p)
    · cases e
  · cases e
def dTup (es : List D) : Option D := if es.length ≤ 100000 then some (.tup es) else none
def dLst (es : List D) : Option D := if es.length ≤ 100000 then some (.lst .own es) else none
theorem sz {n : Nat} (h : n ≤ 100000) : n ≤ sizeLine := by rw [sizeLine_eq]; omega
theorem calld_tup : CallD K mg (fun xs H Q => xs.length ≤ sizeLine ∧ ∀ p, H p = none → Q (.ref p) (upd H p (.tup xs))) dTup := by
  intro G H xs es d' f Q gh h n e k
  unfold dTup at e
  split at e
  · rename_i c
    cases e
    exact ⟨by rw [h.length]; exact sz c, fun p hp => k _ _ _ (VPst.newT gh h (fun _ q => q) n hp)⟩
  · cases e
theorem calld_lst : CallD K mg (fun xs H Q => xs.length ≤ sizeLine ∧ ∀ p, H p = none → Q (.ref p) (upd H p (.lst xs))) dLst := by
  intro G H xs es d' f Q gh h n e k
  unfold dLst at e
  split at e
  · rename_i c
    cases e
    exact ⟨by rw [h.length]; exact sz c, fun p hp => k _ _ _ (VPst.newL gh h (fun _ q => q) n hp)⟩
  · cases e
theorem xe_tup {es : List Expr} {x1} {pos : Pos} {m : MA} (h : XA X es m) : XE X (.Tuple es x1 pos) (mFn dTup m) := PE.mono (pe_tup h) fun _ _ _ q => tm_fn calld_tup q
theorem xe_lst {es : List Expr} {pos : Pos} {m : MA} (h : XA X es m) : XE X (.List es pos) (mFn dLst m) := PE.mono (pe_lst h) fun _ _ _ q => tm_fn calld_lst q
theorem xe_callB {r : List V → Hp → VK → Prop} {g : List D → Option D} {id : String} {nm : Str} {p pos : Pos} {e : Expr} {es : List Expr} {m : MA} (hc : CallR X (.builtin id) r) (hd : CallD X.K X.mg r g) (hg : Gl X nm) (hm : X.mg nm = none) (hv : bootBuiltins nm = some (.builtin id)) (ha : XA X (e :: es) m) (hn : nm ≠ "__name__" := by decide) (hdb : (nm == ("__debug__" : Str)) = false := by decide) (he : starEach (e :: es) X.env = (false, eval e X.env) :: starEach es X.env := by rfl) (hpl : (backTo pos (starEach es X.env)).any (·.1) = false := by rfl) : XE X (.Call (.Name nm p) (e :: es) [] pos) (mFn g m) :=
  PE.mono (pe_callB hc hg hm hv ha hn hdb he hpl) fun _ _ _ q => tm_fn hd q
theorem xe_callTy {r : List V → Hp → VK → Prop} {g : List D → Option D} {T : String} {nm : Str} {p pos : Pos} {e : Expr} {es : List Expr} {m : MA} (hc : CallR X (.type T) r) (hd : CallD X.K X.mg r g) (hg : Gl X nm) (hm : X.mg nm = none) (hv : bootBuiltins nm = some (.type T)) (ha : XA X (e :: es) m) (hn : nm ≠ "__name__" := by decide) (hdb : (nm == ("__debug__" : Str)) = false := by decide) (he : starEach (e :: es) X.env = (false, eval e X.env) :: starEach es X.env := by rfl) (hpl : (backTo pos (starEach es X.env)).any (·.1) = false := by rfl) : XE X (.Call (.Name nm p) (e :: es) [] pos) (mFn g m) :=
  PE.mono (pe_callTy hc hg hm hv ha hn hdb he hpl) fun _ _ _ q => tm_fn hd q
/-! len, tuple, list, isinstance -/
def dLen : List D → Option D
  | [.lst _ es] => some (.v (.int es.length))
  | [.tup es] => some (.v (.int es.length))
  | [.ktp es] => some (.v (.int es.length))
  | [.v (.str z)] => if z.length ≤ 16777216 then some (.v (.int z.length)) else none
  | _ => none
theorem calld_len : CallD K mg (fun xs H Q => (∃ p ys, xs = [.ref p] ∧ (SqL K H p ys ∨ SqT K H p ys) ∧ Q (.int ys.length) H) ∨ ∃ z, xs = [.str z] ∧ z.length ≤ sizeLine ∧ Q (.int z.length) H) dLen := by
  intro G H xs es d' f Q gh h n e k
  unfold dLen at e
  split at e
  · cases e
    cases xs with
    | nil => cases h
    | cons x xs =>
      obtain ⟨f1, f2, rfl, h1, h2⟩ := h.cons_inv
      cases h2
      obtain ⟨a, ys, f', rfl, e1, w, _, _⟩ := h1.lst_inv gh
      refine .inl ⟨a, ys, rfl, .inl e1, ?_⟩
      rw [w.length]; exact k _ G H (VPst.val gh)
  · cases e
    cases xs with
    | nil => cases h
    | cons x xs =>
      obtain ⟨f1, f2, rfl, h1, h2⟩ := h.cons_inv
      cases h2
      obtain ⟨a, ys, rfl, e1, _, w⟩ := h1.tup_inv gh
      refine .inl ⟨a, ys, rfl, .inr e1, ?_⟩
      rw [w.length]; exact k _ G H (VPst.val gh)
  · cases e
    cases xs with
    | nil => cases h
    | cons x xs =>
      obtain ⟨f1, f2, rfl, h1, h2⟩ := h.cons_inv
      cases h2
      obtain ⟨a, ys, rfl, e1, _, w⟩ := h1.ktp_inv gh
      refine .inl ⟨a, ys, rfl, .inr e1, ?_⟩
      rw [w.length]; exact k _ G H (VPst.val gh)
  · split at e
    · rename_i c
      cases e
      cases xs with
      | nil => cases h
      | cons x xs =>
        obtain ⟨f1, f2, rfl, h1, h2⟩ := h.cons_inv
        cases h2
        obtain ⟨rfl, rfl⟩ := h1.v_inv
        exact .inr ⟨_, rfl, line ▸ c, k _ G H (VPst.val gh)⟩
    · cases e
  · cases e
theorem callr_len : CallR X (.builtin "len") (fun xs H Q => (∃ p ys, xs = [.ref p] ∧ (SqL X.K H p ys ∨ SqT X.K H p ys) ∧ Q (.int ys.length) H) ∨ ∃ z, xs = [.str z] ∧ z.length ≤ sizeLine ∧ Q (.int z.length) H) := call_len_seq.or call_len_str
/-- tuple(x), list(x): of clean items -/
def dTuple : List D → Option D
  | [.lst _ es] => if cleans es then some (.tup es) else none
  | [.tup es] => some (.tup es)
  | _ => none
theorem calld_tuple : CallD K mg (fun xs H Q => ∃ p ys, xs = [.ref p] ∧ ((SqL K H p ys ∧ ∀ l, H l = none → Q (.ref l) (upd H l (.tup ys))) ∨ (SqT K H p ys ∧ Q (.ref p) H))) dTuple := by
  intro G H xs es d' f Q gh h n e k
  unfold dTuple at e
  split at e
  · split at e
    · rename_i c
      cases e
      cases xs with
      | nil => cases h
      | cons x xs =>
        obtain ⟨f1, f2, rfl, h1, h2⟩ := h.cons_inv
        cases h2
        obtain ⟨a, ys, f', rfl, e1, w, _, _⟩ := h1.lst_inv gh
        have := w.clean c
        subst this
        exact ⟨a, ys, rfl, .inl ⟨e1, fun p hp => k _ _ _ (VPst.newT gh w (by simp) List.nodup_nil hp)⟩⟩
    · cases e
  · cases e
    cases xs with
    | nil => cases h
    | cons x xs =>
      obtain ⟨f1, f2, rfl, h1, h2⟩ := h.cons_inv
      cases h2
      have h1' := h1
      obtain ⟨a, ys, rfl, e1, _, w⟩ := h1.tup_inv gh
      exact ⟨a, ys, rfl, .inr ⟨e1, k _ G H (VPst.same gh h1' (by simp) (by simpa using n))⟩⟩
  · cases e
def dList : List D → Option D
  | [.lst _ es] => if cleans es then some (.lst .own es) else none
  | [.tup es] => if cleans es then some (.lst .own es) else none
  | _ => none
theorem calld_list : CallD K mg (fun xs H Q => ∃ p ys, xs = [.ref p] ∧ (SqL K H p ys ∨ SqT K H p ys) ∧ ∀ l, H l = none → Q (.ref l) (upd H l (.lst ys))) dList := by
  intro G H xs es d' f Q gh h n e k
  unfold dList at e
  split at e
  · split at e
    · rename_i c
      cases e
      cases xs with
      | nil => cases h
      | cons x xs =>
        obtain ⟨f1, f2, rfl, h1, h2⟩ := h.cons_inv
        cases h2
        obtain ⟨a, ys, f', rfl, e1, w, _, _⟩ := h1.lst_inv gh
        have := w.clean c
        subst this
        exact ⟨a, ys, rfl, .inl e1, fun p hp => k _ _ _ (VPst.newL gh w (by simp) List.nodup_nil hp)⟩
    · cases e
  · split at e
    · rename_i c
      cases e
      cases xs with
      | nil => cases h
      | cons x xs =>
        obtain ⟨f1, f2, rfl, h1, h2⟩ := h.cons_inv
        cases h2
        obtain ⟨a, ys, rfl, e1, _, w⟩ := h1.tup_inv gh
        have := w.clean c
        subst this
        exact ⟨a, ys, rfl, .inr e1, fun p hp => k _ _ _ (VPst.newL gh w (by simp) List.nodup_nil hp)⟩
    · cases e
  · cases e
/-! isinstance of a built-in class, written -/
def tyOf : D → Option String
  | .v .non => some "NoneType"
  | .v (.bl _) => some "bool"
  | .v (.int _) => some "int"
  | .v (.str _) => some "str"
  | .tup _ => some "tuple"
  | .lst _ _ => some "list"
  | .dic _ _ _ => some "dict"
  | .dit _ _ _ => some "dict"
  | _ => none
def dIsi : List D → Option D
  | [d, .v (.ty T)] => match tyOf d with
    | some t => (kitB t T).map fun b => .v (.bl b)
    | none => none
  | _ => none
theorem calld_isi : CallD K mg (rIsi K) dIsi := by
  intro G H xs es d' f Q gh h n e k
  unfold dIsi at e
  split at e
  · rename_i d T
    split at e
    · rename_i t et
      cases hb : kitB t T with
      | none => rw [hb] at e; cases e
      | some b =>
        rw [hb] at e; cases e
        cases xs with
        | nil => cases h
        | cons x xs =>
          obtain ⟨f1, f2, rfl, h1, h2⟩ := h.cons_inv
          cases xs with
          | nil => cases h2
          | cons c xs =>
            obtain ⟨f3, f4, rfl, h3, h4⟩ := h2.cons_inv
            cases h4
            obtain ⟨rfl, rfl⟩ := h3.v_inv
            refine ⟨x, .ty T, .type t, .type T, b, rfl, .ty T, ?_, kit_ty hb, k _ G H (VPst.val gh)⟩
            cases d with
            | v w =>
              obtain ⟨rfl, rfl⟩ := h1.v_inv
              cases x <;> cases et
              · exact .base .non
              · exact .base (.bl _)
              · exact .base (.int _)
              · exact .base (.str _)
            | ktp es => cases et
            | tup es =>
              cases et
              obtain ⟨a, ys, rfl, e1, _, w⟩ := h1.tup_inv gh
              rcases e1 with (e1 | ⟨o, e1⟩) | ⟨o, its, m, e1, c1, _⟩
              · exact .base (.tup e1)
              · exact .fTuple e1
              · exact .kTuple e1 c1
            | lst oo es =>
              cases et
              obtain ⟨a, ys, f', rfl, e1, w, _, _⟩ := h1.lst_inv gh
              rcases e1 with (e1 | ⟨o, e1⟩) | ⟨o, its, m, e1, c1, _⟩
              · exact .base (.lst e1)
              · exact .base (.frz e1)
              · exact .kList e1 c1
            | dic oo ks es =>
              cases et
              cases h1 with
              | fd e1 _ _ _ => exact .base (.dK (gh _ _ e1))
              | od e1 _ _ _ _ => exact .base (.dK e1)
            | dit oo ks es =>
              cases et
              cases h1 with
              | ft e1 _ _ _ => exact .base (.dT (gh _ _ e1))
              | ot e1 _ _ _ _ => exact .base (.dT e1)
            | ins c fs es => cases et
    · cases e
  · cases e
end
section
variable {K : PySem.W.Frag} {mg : Str → Option Value} {f f1 f2 : List Addr} {G H G1 H1 G2 H2 : Hp} {σ : L2.St} {ds ds1 ds2 : DS} {vs ws : List V} {es es2 : List D} {x y : V} {d e : D} {X : Cx} {Q : VK}
/-! ### an item -/
def dIx : D → D → Option D
  | .lst _ es, .v (.int i) => atI es i
  | .tup es, .v (.int i) => atI es i
  | .ktp es, .v (.int i) => atI es i
  | .v (.str z), .v (.int i) => if z.length ≤ 16777216 then (atI z.cps.toList i).map fun c => .v (.str ⟨#[c]⟩) else none
  | _, _ => none
theorem Owns.atI (h : Owns K mg G H vs es f) {i : Int} {d : D} (e : L2.atI es i = some d) : ∃ v f', L2.atI vs i = some v ∧ Owns K mg G H [v] [d] f' ∧ (∀ p ∈ f', p ∈ f) ∧ (f.Nodup → f'.Nodup) := by
  unfold L2.atI at e ⊢
  rw [h.length]
  cases hi : ixN es.length i with
  | none => rw [hi] at e; cases e
  | some j =>
    rw [hi] at e
    exact h.item e
theorem opd_ix : OpD K mg (rIx K) dIx := by
  intro G H x y d e d' f Q gh h n q k
  obtain ⟨f1, f2, rfl, h1, h2⟩ := h.two
  have nn := List.nodup_append.mp n
  unfold dIx at q
  split at q
  · obtain ⟨rfl, rfl⟩ := h2.v_inv
    obtain ⟨a, xs, f', rfl, e1, w, s1, m1⟩ := h1.lst_inv gh
    obtain ⟨v, f3, hv, w3, s3, m3⟩ := w.atI q
    exact .inl ⟨a, xs, _, v, rfl, rfl, e1, hv, k _ G H (VPst.same gh w3 (fun p hp => List.mem_append_left _ (s1 p (s3 p hp))) (m3 (m1 nn.1)))⟩
  · obtain ⟨rfl, rfl⟩ := h2.v_inv
    obtain ⟨a, xs, rfl, e1, _, w⟩ := h1.tup_inv gh
    obtain ⟨v, f3, hv, w3, s3, m3⟩ := w.atI q
    exact .inr (.inl ⟨a, xs, _, v, rfl, rfl, e1, hv, k _ G H (VPst.same gh w3 (fun p hp => List.mem_append_left _ (s3 p hp)) (m3 nn.1))⟩)
  · obtain ⟨rfl, rfl⟩ := h2.v_inv
    obtain ⟨a, xs, rfl, e1, _, w⟩ := h1.ktp_inv gh
    obtain ⟨v, f3, hv, w3, s3, m3⟩ := w.atI q
    exact .inr (.inl ⟨a, xs, _, v, rfl, rfl, e1, hv, k _ G H (VPst.same gh w3 (fun p hp => List.mem_append_left _ (s3 p hp)) (m3 nn.1))⟩)
  · rename_i z i
    split at q
    · rename_i c
      obtain ⟨rfl, rfl⟩ := h1.v_inv
      obtain ⟨rfl, rfl⟩ := h2.v_inv
      cases hc : L2.atI z.cps.toList i with
      | none => rw [hc] at q; cases q
      | some u => rw [hc] at q; cases q; exact .inr (.inr ⟨_, _, u, rfl, rfl, line ▸ c, hc, k _ G H (VPst.val gh)⟩)
    · cases q
  · cases q
theorem xe_ix {a b : Expr} {pos : Pos} {ma mb : ME} (ha : XE X a ma) (hb : XE X b mb) (hs : PlainIx b := by intro _ _; rfl) : XE X (.Subscript a b pos) (mOp dIx ma mb) := PE.mono (pe_ix ix_seq ha hb hs) fun _ _ _ h => tm_op opd_ix h
/-- of what slot i holds, which stays as it is: a clean answer -/
def mLook (i : Nat) (g : D → D → Option D) (mb : ME) : ME := fun ds => match ds[i]? with
  | some (some _) => match mb ds with
    | some (e, ds1) => match ds1[i]? with
      | some (some d) => match g d e with
        | some d' => if clean d' && clean e then some (d', ds1) else none
        | none => none
      | _ => none
    | none => none
  | _ => none
/-- what a reading of a slot's value and another's clean value gives leaves all as it is -/
def LookD (K : PySem.W.Frag) (mg : Str → Option Value) (r : R2) (g : D → D → Option D) : Prop := ∀ (G H : Hp) (x y : V) (d e d' : D) (f : List Addr) (Q : VK), Same G H → Owns K mg G H [x] [d] f → Owns K mg G H [y] [e] [] → g d e = some d' → clean d' = true →
  (∀ v G' H', Ext [] G H [] G' H' → Owns K mg G' H' [v] [d'] [] → Q v H') → r x y H Q
theorem Pst.put (x : Ext f G H (f1 ++ f2) G1 H1) (o1 : OwnS K mg G1 H1 σ ds1 f1) (n : (f1 ++ f2).Nodup) (y : Ext [] G1 H1 [] G2 H2) (q : Owns K mg G2 H2 ws es2 []) : Pst K mg f G H σ ds1 ws es2 G2 H2 := by
  refine Pst.map (f1 := f1) (f2 := f2) x o1 n ⟨[], ?_, q, List.nodup_nil⟩
  exact ⟨y.gh, y.gg, fun p o e h => y.keep p o e (by simp), fun p h => (nomatch h), fun p o g h e => y.gn p o g (by simp) e⟩
theorem tm_look {i : Nat} {r : R2} {g : D → D → Option D} {mb : ME} (hg : LookD K mg r g) (h : tm K mg (mLook i g mb) σ H Q) : tOp r (tVar i) (tm K mg mb) σ H Q := by
  obtain ⟨G, ds, f, d, ds', gh, o, n, e, k⟩ := h
  unfold mLook at e
  split at e
  · rename_i d9 h9
    obtain ⟨v, _, _, _, _, hv, _, _⟩ := o.split h9
    split at e
    · rename_i e0 ds1 e1
      split at e
      · rename_i d0 hi
        split at e
        · rename_i d1 e2
          split at e
          · rename_i c
            cases e
            rw [Bool.and_eq_true] at c
            refine ⟨v, hv, G, ds, f, e0, _, gh, o, n, e1, fun y G1 H1 p1 => ?_⟩
            obtain ⟨f1, f2, x1, o1, q1, n1⟩ := p1
            obtain ⟨v', fa, fb, fc, rfl, hv', ho, kk⟩ := o1.split hi
            rw [hv] at hv'
            cases hv'
            have := q1.clean (clean_sing c.2)
            subst this
            exact hg G1 H1 v y d0 e0 _ fb Q x1.gh ho q1 e2 c.1 fun w G' H' y' q' => k w G' H' (Pst.put x1 o1 n1 y' q')
          · cases e
        · cases e
      · cases e
    · cases e
  · cases e
theorem lookd_ix : LookD K mg (rIx K) dIx := by
  intro G H x y d e d' f Q gh h1 h2 q c k
  unfold dIx at q
  split at q
  · obtain ⟨rfl, _⟩ := h2.v_inv
    obtain ⟨a, xs, f', rfl, e1, w, s1, m1⟩ := h1.lst_inv gh
    obtain ⟨v, f3, hv, w3, s3, m3⟩ := w.atI q
    have := w3.clean (clean_sing c)
    subst this
    exact .inl ⟨a, xs, _, v, rfl, rfl, e1, hv, k _ G H (Ext.refl gh []) w3⟩
  · obtain ⟨rfl, _⟩ := h2.v_inv
    obtain ⟨a, xs, rfl, e1, _, w⟩ := h1.tup_inv gh
    obtain ⟨v, f3, hv, w3, s3, m3⟩ := w.atI q
    have := w3.clean (clean_sing c)
    subst this
    exact .inr (.inl ⟨a, xs, _, v, rfl, rfl, e1, hv, k _ G H (Ext.refl gh []) w3⟩)
  · obtain ⟨rfl, _⟩ := h2.v_inv
    obtain ⟨a, xs, rfl, e1, _, w⟩ := h1.ktp_inv gh
    obtain ⟨v, f3, hv, w3, s3, m3⟩ := w.atI q
    have := w3.clean (clean_sing c)
    subst this
    exact .inr (.inl ⟨a, xs, _, v, rfl, rfl, e1, hv, k _ G H (Ext.refl gh []) w3⟩)
  · rename_i z i
    split at q
    · rename_i cc
      obtain ⟨rfl, _⟩ := h1.v_inv
      obtain ⟨rfl, _⟩ := h2.v_inv
      cases hc : L2.atI z.cps.toList i with
      | none => rw [hc] at q; cases q
      | some u => rw [hc] at q; cases q; exact .inr (.inr ⟨_, _, u, rfl, rfl, line ▸ cc, hc, k _ G H (Ext.refl gh []) (.v .nil)⟩)
    · cases q
  · cases q
/-- x[b], x the name in slot i -/
theorem xe_ixv (i : Nat) {nm : Str} {p : Pos} {b : Expr} {pos : Pos} {mb : ME} (hb : XE X b mb) (hN : X.N[i]? = some nm := by rfl) (hv : Vis X.env.scope nm := by first | exact Or.inl rfl | exact Or.inr (Or.inl rfl) | exact Or.inr (Or.inr rfl)) (hd : (nm == ("__debug__" : Str)) = false := by decide) (hcd : (nm == ("__classdict__" : Str)) = false := by decide) (hs : PlainIx b := by intro _ _; rfl) : XE X (.Subscript (.Name nm p) b pos) (mLook i dIx mb) :=
  PE.mono (pe_ix ix_seq (pe_var hN hv hd hcd) hb hs) fun _ _ _ h => tm_look lookd_ix h
/-! ### statements -/
theorem Pst.ends {E : Ends} {σ' : L2.St} {out : Out} (x : Ext f G H (f1 ++ []) G1 H1) (p : PostO K mg E f G H σ' out) : PostO K mg E f1 G1 H1 σ' out := by
  cases out with
  | nx ds => exact fun G' H' q => p G' H' (Pst.nil_trans x q)
  | bk ds => exact fun G' H' q => p G' H' (Pst.nil_trans x q)
  | ct ds => exact fun G' H' q => p G' H' (Pst.nil_trans x q)
  | rt d ds => exact fun v G' H' q => p v G' H' (Pst.nil_trans x q)
theorem PostO.mono {E E' : Ends} {σ' : L2.St} {out : Out} (hn : E.nx = E'.nx) (hr : E.rt = E'.rt) (hb : E.bk = E'.bk) (hc : E.ct = E'.ct) (p : PostO K mg E f G H σ' out) : PostO K mg E' f G H σ' out := by
  cases E; cases E'; cases hn; cases hr; cases hb; cases hc; exact p
def mSkip : MS := fun ds => some (.nx ds)
def mSeq (a b : MS) : MS := fun ds => match a ds with
  | some (.nx ds1) => b ds1
  | r => r
def mIf (t : MT) (a b : MS) : MS := fun ds => match t ds with
  | some (true, ds1) => a ds1
  | some (false, ds1) => b ds1
  | none => none
def setSlot (i : Nat) (d : D) (ds : DS) : Option DS := if i < ds.length then some (ds.set i (some d)) else none
def mAsg (i : Nat) (m : ME) : MS := fun ds => match m ds with
  | some (d, ds1) => (setSlot i d ds1).map .nx
  | none => none
def mRet (m : ME) : MS := fun ds => match m ds with
  | some (d, ds1) => some (.rt d ds1)
  | none => none
def mDrop (m : ME) : MS := fun ds => match m ds with
  | some (_, ds1) => some (.nx ds1)
  | none => none
def mBrk : MS := fun ds => some (.bk ds)
def mCnt : MS := fun ds => some (.ct ds)
variable {fx : Nat → Bool} {E : Ends}
theorem ts_skip (h : ts K mg fx mSkip E σ H) : tNext E σ H := by
  obtain ⟨G, ds, f, out, g, o, n, e, k⟩ := h
  cases e
  exact k σ (FixS.refl _ _) G H (Pst.refl g o n)
theorem ts_brk (h : ts K mg fx mBrk E σ H) : tBreak E σ H := by
  obtain ⟨G, ds, f, out, g, o, n, e, k⟩ := h
  cases e
  exact k σ (FixS.refl _ _) G H (Pst.refl g o n)
theorem ts_cnt (h : ts K mg fx mCnt E σ H) : tCont E σ H := by
  obtain ⟨G, ds, f, out, g, o, n, e, k⟩ := h
  cases e
  exact k σ (FixS.refl _ _) G H (Pst.refl g o n)
theorem ts_seq {a b : MS} (h : ts K mg fx (mSeq a b) E σ H) : tSeq (ts K mg fx a) (ts K mg fx b) E σ H := by
  obtain ⟨G, ds, f, out, g, o, n, e, k⟩ := h
  unfold mSeq at e
  split at e
  · rename_i ds1 e1
    refine ⟨G, ds, f, _, g, o, n, e1, fun σ1 s1 G1 H1 p1 => ?_⟩
    obtain ⟨f1, f2, x1, o1, q1, n1⟩ := p1
    cases q1
    exact ⟨G1, ds1, f1, out, x1.gh, o1, (List.nodup_append.mp n1).1, e, fun σ2 s2 => Pst.ends x1 (k σ2 (s1.trans s2))⟩
  · rename_i hne
    refine ⟨G, ds, f, out, g, o, n, e, fun σ1 s1 => ?_⟩
    have := k σ1 s1
    cases out with
    | nx ds1 => exact absurd e (hne ds1)
    | bk ds1 => exact this
    | ct ds1 => exact this
    | rt d ds1 => exact this
theorem ts_if {t : MT} {a b : MS} (h : ts K mg fx (mIf t a b) E σ H) : tIfS (tt K mg t) (ts K mg fx a) (ts K mg fx b) E σ H := by
  obtain ⟨G, ds, f, out, g, o, n, e, k⟩ := h
  unfold mIf at e
  split at e
  · rename_i ds1 e1
    refine ⟨G, ds, f, true, ds1, g, o, n, e1, fun G1 H1 p1 => ?_⟩
    obtain ⟨f1, f2, x1, o1, q1, n1⟩ := p1
    cases q1
    show ts K mg fx a E σ H1
    exact ⟨G1, ds1, f1, out, x1.gh, o1, (List.nodup_append.mp n1).1, e, fun σ2 s2 => Pst.ends x1 (k σ2 s2)⟩
  · rename_i ds1 e1
    refine ⟨G, ds, f, false, ds1, g, o, n, e1, fun G1 H1 p1 => ?_⟩
    obtain ⟨f1, f2, x1, o1, q1, n1⟩ := p1
    cases q1
    show ts K mg fx b E σ H1
    exact ⟨G1, ds1, f1, out, x1.gh, o1, (List.nodup_append.mp n1).1, e, fun σ2 s2 => Pst.ends x1 (k σ2 s2)⟩
  · cases e
theorem Pst.bind {i : Nat} {v : V} (p : Pst K mg f G H σ ds [v] [d] G1 H1) {ds2 : DS} (e : setSlot i d ds = some ds2) : Pst K mg f G H (σ.set i (some v)) ds2 [] [] G1 H1 := by
  obtain ⟨f1, f2, x1, o1, q1, n1⟩ := p
  unfold setSlot at e
  split at e
  · rename_i hi
    cases e
    obtain ⟨fa, fb, fc, rfl, kk⟩ := o1.bind hi
    refine ⟨fa ++ f2 ++ fc, [], x1.less ?_, kk v d f2 q1, .nil, ?_⟩
    · intro p hp; simp only [List.mem_append, List.append_nil] at hp ⊢; rcases hp with (h | h) | h <;> simp [h]
    · simp only [List.append_nil, List.nodup_append, List.mem_append] at n1 ⊢
      exact ⟨⟨n1.1.1.1, n1.2.1, fun a ha b hb => n1.2.2 a (.inl (.inl ha)) b hb⟩, n1.1.2.1, fun a ha b hb => by
        rcases ha with ha | ha
        · exact n1.1.2.2 a (.inl ha) b hb
        · exact fun z => n1.2.2 b (.inr hb) a ha z.symm⟩
  · cases e
theorem ts_asg {i : Nat} {m : ME} (hf : fx i = false) (h : ts K mg fx (mAsg i m) E σ H) : tAsg (tm K mg m) (gName i) E σ H := by
  obtain ⟨G, ds, f, out, g, o, n, e, k⟩ := h
  unfold mAsg at e
  split at e
  · rename_i d ds1 e1
    cases hs : setSlot i d ds1 with
    | none => rw [hs] at e; cases e
    | some ds2 =>
      rw [hs] at e; cases e
      exact ⟨G, ds, f, d, ds1, g, o, n, e1, fun v G1 H1 p1 => k _ (FixS.set σ _ hf) G1 H1 (p1.bind hs)⟩
  · cases e
theorem ts_ret {m : ME} (h : ts K mg fx (mRet m) E σ H) : tRet (tm K mg m) E σ H := by
  obtain ⟨G, ds, f, out, g, o, n, e, k⟩ := h
  unfold mRet at e
  split at e
  · rename_i d ds1 e1
    cases e
    exact ⟨G, ds, f, d, ds1, g, o, n, e1, fun v G1 H1 p1 => k σ (FixS.refl _ _) v G1 H1 p1⟩
  · cases e
theorem ts_drop {m : ME} (h : ts K mg fx (mDrop m) E σ H) : tDrop (tm K mg m) E σ H := by
  obtain ⟨G, ds, f, out, g, o, n, e, k⟩ := h
  unfold mDrop at e
  split at e
  · rename_i d ds1 e1
    cases e
    refine ⟨G, ds, f, d, ds1, g, o, n, e1, fun v G1 H1 p1 => k σ (FixS.refl _ _) G1 H1 ?_⟩
    obtain ⟨f1, f2, x1, o1, q1, n1⟩ := p1
    exact ⟨f1, [], x1.less (by simp; intro p h; exact .inl h), o1, .nil, by simpa using (List.nodup_append.mp n1).1⟩
  · cases e
variable {st : Stmt} {rest sa sb : List Stmt} {a b : MS} {pos : Pos} {ex : Expr} {m : ME} {t : MT}
theorem xb_nil : XB X fx [] mSkip := PSs.mono pss_nil fun _ _ _ h => ts_skip h
theorem xb_cons (h1 : XS X fx st a) (h2 : XB X fx rest b) : XB X fx (st :: rest) (mSeq a b) := PSs.mono (pss_cons h1 h2) fun _ _ _ h => ts_seq h
theorem xb_one (h1 : XS X fx st a) : XB X fx [st] a := pss_one h1
theorem xs_pass : XS X fx (.Pass pos) mSkip := PS.mono ps_pass fun _ _ _ h => ts_skip h
theorem xs_brk : XS X fx (.Break pos) mBrk := PS.mono ps_break fun _ _ _ h => ts_brk h
theorem xs_cnt : XS X fx (.Continue pos) mCnt := PS.mono ps_continue fun _ _ _ h => ts_cnt h
theorem xs_if (hc : XT X ex t) (ha : XB X fx sa a) (hb : XB X fx sb b) : XS X fx (.If ex sa sb pos) (mIf t a b) := PS.mono (ps_if hc ha hb) fun _ _ _ h => ts_if h
theorem xs_ret (he : XE X ex m) : XS X fx (.Return (some ex) pos) (mRet m) := PS.mono (ps_ret he) fun _ _ _ h => ts_ret h
theorem xs_expr (he : XE X ex m) (hs : swapsWith ex none pos.line X.env = pure false := by rfl) : XS X fx (.Expr ex pos) (mDrop m) := PS.mono (ps_expr he hs) fun _ _ _ h => ts_drop h
theorem xs_set (i : Nat) {x : Str} {pos' : Pos} (hN : X.N.Nodup) (he : XE X ex m) (hf : fx i = false := by rfl) (hi : X.N[i]? = some x := by rfl) (hx : Loc X.env.scope x := by first | exact Or.inl rfl | exact Or.inr rfl) (hs : swapsWith ex (some (.Name x pos')) pos.line X.env = pure false := by rfl) (hff : X.fn x = true ∨ X.env.scope.names.lookup x = some .local := by first | exact .inl rfl | exact .inr rfl) : XS X fx (.Assign [.Name x pos'] ex pos) (mAsg i m) :=
  PS.mono (ps_set hN hi hx he hs hff) fun _ _ _ h => ts_asg hf h
end
end Z
namespace Z
open PySem PySem.Spec L2
/-! ### defs -/
def outs (fx : Nat → Bool) : Nat → List D → DS → DS
  | _, [], _ => []
  | i, a :: as, [] => (if fx i then none else if clean a then some a else none) :: outs fx (i + 1) as []
  | i, a :: as, o :: ds => (if fx i then o else if clean a then some a else none) :: outs fx (i + 1) as ds
def fnM (np n : Nat) (fx : Nat → Bool) (m : MS) : List D → Option (D × DS) := fun as =>
  if as.length = np then match m (as.map some ++ List.replicate (n - np) none) with
    | some (.rt d ds) => some (d, outs fx 0 as ds)
    | some (.nx ds) => some (.v .non, outs fx 0 as ds)
    | _ => none
  else none
def spF (K : PySem.W.Frag) (mg : Str → Option Value) (np : Nat) (F : List D → Option (D × DS)) : Sp := fun vs H Q _ =>
  vs.length = np ∧ ∃ G as f d os, Same G H ∧ Owns K mg G H vs as f ∧ f.Nodup ∧ F as = some (d, os) ∧ ∀ v G' H', Pst K mg f G H (vs.map some) os [v] [d] G' H' → Q v H'
section
variable {K : PySem.W.Frag} {mg : Str → Option Value} {f f1 f2 : List Addr} {G H G1 H1 G2 H2 : Hp} {σ : L2.St} {ds ds1 ds2 : DS} {vs ws : List V} {es es2 : List D} {x y : V} {d e : D}
theorem Owns.slots : ∀ {es : List D} {vs : List V} {f : List Addr}, Owns K mg G H vs es f → ∀ n : Nat, OwnS K mg G H (vs.map some ++ List.replicate n none) (es.map some ++ List.replicate n none) f := by
  intro es
  induction es with
  | nil =>
    intro vs f h n
    cases h
    induction n with
    | zero => exact .nil
    | succ n ih => rw [List.replicate_succ]; exact .no ih
  | cons d es ih =>
    intro vs f h n
    cases vs with
    | nil => cases h
    | cons v vs =>
      obtain ⟨f1, f2, rfl, h1, h2⟩ := h.cons_inv
      exact .yes h1 (ih h2 n)
theorem outs_own {fx : Nat → Bool} : ∀ {as : List D} {i : Nat} {vs : List V} {σ' : L2.St} {ds : DS} {f : List Addr}, OwnS K mg G H σ' ds f → vs.length = as.length → (∀ (j : Nat) (v : V), vs[j]? = some v → fx (i + j) = true → σ'[j]? = some (some v)) → (∀ (j : Nat) (v : V) (a : D), vs[j]? = some v → as[j]? = some a → clean a = true → Owns K mg G H [v] [a] []) →
    ∃ f', (∀ p ∈ f', p ∈ f) ∧ (f.Nodup → f'.Nodup) ∧ OwnS K mg G H (vs.map some) (outs fx i as ds) f' := by
  intro as
  induction as with
  | nil =>
    intro i vs σ' ds f h hl _ _
    cases vs with
    | nil => exact ⟨[], by simp, fun _ => List.nodup_nil, .nil⟩
    | cons v vs => cases hl
  | cons a as ih =>
    intro i vs σ' ds f h hl hs hc
    cases vs with
    | nil => cases hl
    | cons v vs =>
      have hl' : vs.length = as.length := by simpa using hl
      have hc' : ∀ j w b, vs[j]? = some w → as[j]? = some b → clean b = true → Owns K mg G H [w] [b] [] := fun j w b h1 h2 h3 => hc (j + 1) w b (by simpa using h1) (by simpa using h2) h3
      have h0 : fx i = true → σ'[0]? = some (some v) := fun q => hs 0 v rfl (by simpa using q)
      cases h with
      | nil =>
        obtain ⟨f', s1, n1, o1⟩ := ih (i := i + 1) (vs := vs) (ds := []) OwnS.nil hl' (fun j w h1 h2 => by
          have := hs (j + 1) w (by simpa using h1) (by rw [← h2]; congr 1; omega)
          simp at this) hc'
        cases hf : fx i with
        | true =>
          have := h0 hf
          simp at this
        | false =>
          rw [outs, hf]
          cases hca : clean a with
          | true => exact ⟨f', s1, n1, by simpa using OwnS.yes (hc 0 v a rfl rfl hca) o1⟩
          | false => exact ⟨f', s1, n1, by simpa using OwnS.no o1⟩
      | @no o σ' ds f h =>
        obtain ⟨f', s1, n1, o1⟩ := ih (i := i + 1) (vs := vs) h hl' (fun j w h1 h2 => by
          have := hs (j + 1) w (by simpa using h1) (by rw [← h2]; congr 1; omega)
          simpa using this) hc'
        cases hf : fx i with
        | true => rw [outs, hf]; exact ⟨f', s1, n1, by simpa using OwnS.no o1⟩
        | false =>
          rw [outs, hf]
          cases hca : clean a with
          | true => exact ⟨f', s1, n1, by simpa using OwnS.yes (hc 0 v a rfl rfl hca) o1⟩
          | false => exact ⟨f', s1, n1, by simpa using OwnS.no o1⟩
      | @yes v0 d0 σ' ds g1 g2 e0 h =>
        obtain ⟨f', s1, n1, o1⟩ := ih (i := i + 1) (vs := vs) h hl' (fun j w h1 h2 => by
          have := hs (j + 1) w (by simpa using h1) (by rw [← h2]; congr 1; omega)
          simpa using this) hc'
        cases hf : fx i with
        | true =>
          have := h0 hf
          have : v0 = v := by simpa using this
          subst this
          rw [outs, hf]
          refine ⟨g1 ++ f', ?_, fun n => ?_, by simpa using OwnS.yes e0 o1⟩
          · intro p hp
            rcases List.mem_append.mp hp with h | h
            · exact List.mem_append_left _ h
            · exact List.mem_append_right _ (s1 p h)
          · have nn := List.nodup_append.mp n
            rw [List.nodup_append]
            exact ⟨nn.1, n1 nn.2.1, fun a ha b hb => nn.2.2 a ha b (s1 b hb)⟩
        | false =>
          rw [outs, hf]
          have s1' : ∀ p ∈ f', p ∈ g1 ++ g2 := fun p h => List.mem_append_right _ (s1 p h)
          have n1' : (g1 ++ g2).Nodup → f'.Nodup := fun n => n1 (List.nodup_append.mp n).2.1
          cases hca : clean a with
          | true => exact ⟨f', s1', n1', by simpa using OwnS.yes (hc 0 v a rfl rfl hca) o1⟩
          | false => exact ⟨f', s1', n1', by simpa using OwnS.no o1⟩
theorem Owns.at_ {es : List D} {vs : List V} (h : Owns K mg G H vs es f) {j : Nat} {v : V} {a : D} (h1 : vs[j]? = some v) (h2 : es[j]? = some a) (c : Z.clean a = true) : Owns K mg G H [v] [a] [] := by
  obtain ⟨w, f', e1, e2, _, _⟩ := h.item h2
  rw [h1] at e1; cases e1
  have := e2.clean (clean_sing c)
  subst this
  exact e2
theorem start_fix {fx : Nat → Bool} {N : List Str} {vs : List V} {σ' : L2.St} (hx : FixS fx (L2.start N vs) σ') {j : Nat} {v : V} (h : vs[j]? = some v) (hj : fx j = true) : σ'[j]? = some (some v) := by
  rw [hx.2 j hj]
  unfold L2.start
  have hlt : j < vs.length := (List.getElem?_eq_some_iff.mp h).1
  rw [List.getElem?_append_left (by simpa using hlt), List.getElem?_map, h]
  rfl
theorem fn_read {fx : Nat → Bool} {m : MS} {N : List Str} {np : Nat} {Q : VK} {E : XK} (h : spF K mg np (fnM np N.length fx m) vs H Q E) : ts K mg fx m { nx := fun _ H' => Q .non H', rt := Q } (L2.start N vs) H := by
  obtain ⟨hl, G, as, f, d, os, gh, ho, n, e, k⟩ := h
  have hla := ho.length
  unfold fnM at e
  split at e
  · rename_i hn
    have h0 : OwnS K mg G H (L2.start N vs) (as.map some ++ List.replicate (N.length - np) none) f := by
      unfold L2.start
      rw [hl]
      exact ho.slots _
    have key : ∀ σ' ds' G' H' v d', FixS fx (L2.start N vs) σ' → Pst K mg f G H σ' ds' [v] [d'] G' H' → Pst K mg f G H (vs.map some) (outs fx 0 as ds') [v] [d'] G' H' := by
      intro σ' ds' G' H' v d' hx p
      obtain ⟨f1, f2, x1, o1, q1, n1⟩ := p
      obtain ⟨f', s1, m1, o2⟩ := outs_own (fx := fx) (i := 0) (as := as) (vs := vs) o1 hla (fun j w h1 h2 => start_fix hx h1 (by simpa using h2)) (fun j w a h1 h2 c => (ho.at_ h1 h2 c).frame x1.gg fun a ha => by cases ha)
      have nn := List.nodup_append.mp n1
      refine ⟨f', f2, x1.less ?_, o2, q1, ?_⟩
      · intro p hp
        rcases List.mem_append.mp hp with h | h
        · exact List.mem_append_left _ (s1 p h)
        · exact List.mem_append_right _ h
      · rw [List.nodup_append]
        exact ⟨m1 nn.1, nn.2.1, fun a ha b hb => nn.2.2 a (s1 a ha) b hb⟩
    split at e
    · rename_i d0 ds0 e0
      cases e
      exact ⟨G, _, f, _, gh, h0, n, e0, fun σ' hx v G' H' p => k v G' H' (key σ' _ G' H' v _ hx p)⟩
    · rename_i ds0 e0
      cases e
      refine ⟨G, _, f, _, gh, h0, n, e0, fun σ' hx G' H' p => k .non G' H' (key σ' _ G' H' .non (.v .non) hx ?_)⟩
      obtain ⟨f1, f2, x1, o1, q1, n1⟩ := p
      cases q1
      exact ⟨f1, [], x1, o1, .v .nil, n1⟩
    · cases e
  · cases e
end
section
variable {P : Program} {w : World} {K : PySem.W.Frag} {mg : Str → Option Value} {base : Heap}
theorem ok_def {x qual : Str} {st : Stmt} {f : Addr} {fd : FuncData} {N ps : List Str} {k : Nat} {fx : Nat → Bool} {m : MS} (F : Fun K x qual st f fd) (S : FnScope N ps (defScope st))
    (hb : ∀ (cdv : Value) (A : Around) (outer : List Env) (s : Shared) (H : Hp) (E : XK), Room k (A.deeper (PyProof.Rows.envOfC qual (defScope st) s.heap.objs.size f cdv)) → XB (cxOf CX0 P w K mg base N qual (defScope st) f cdv A outer s H E).nox fx (defBody st) m) :
    FnOk P w K mg base CX0 (k + 1) f fd ps (spF K mg ps.length (fnM ps.length N.length fx m)) :=
  F.ok S (fun vs H Q E h => h.1) fun cdv A outer s H vs Q E hr h => ⟨_, hb cdv A outer s H E hr, fn_read h⟩
structure Def (P : Program) (w : World) (K : PySem.W.Frag) (mg : Str → Option Value) (base : Heap) (k : Nat) (x : Str) (np : Nat) (F : List D → Option (D × DS)) : Prop where
  ex : ∃ f fd ps, mg x = some (.ref f) ∧ PySem.W.keepIn K (.ref f) = true ∧ Binds K fd ps [] ∧ ps.length = np ∧ FnOk P w K mg base CX0 k f fd ps (spF K mg np F)
end
/-! ### calls: what is handed in by its name comes back -/
inductive Arg where
  | ex (m : ME) | bo (i : Nat)
def tArgs (K : PySem.W.Frag) (mg : Str → Option Value) : List Arg → TA
  | [] => tNil
  | .ex m :: r => tCons (tm K mg m) (tArgs K mg r)
  | .bo i :: r => tCons (tVar i) (tArgs K mg r)
def mArgs : List Arg → DS → Option (List (Nat ⊕ D) × DS)
  | [], ds => some ([], ds)
  | .ex m :: r, ds => match m ds with
    | some (d, ds1) => match mArgs r ds1 with
      | some (rs, ds2) => some (.inr d :: rs, ds2)
      | none => none
    | none => none
  | .bo i :: r, ds => match ds[i]? with
    | some (some _) => match mArgs r ds with
      | some (rs, ds2) => some (.inl i :: rs, ds2)
      | none => none
    | _ => none
def take : List (Nat ⊕ D) → DS → Option (List D × DS)
  | [], ds => some ([], ds)
  | .inr d :: r, ds => match take r ds with
    | some (es, ds1) => some (d :: es, ds1)
    | none => none
  | .inl i :: r, ds => match ds[i]? with
    | some (some d) => match take r (if clean d then ds else ds.set i none) with
      | some (es, ds1) => some (d :: es, ds1)
      | none => none
    | _ => none
def put : List (Nat ⊕ D) → List D → DS → DS → DS
  | .inl i :: r, d :: as, o :: os, ds => put r as os (if clean d then ds else ds.set i o)
  | .inr _ :: r, _ :: as, _ :: os, ds => put r as os ds
  | _, _, _, ds => ds
def mCall (F : List D → Option (D × DS)) (args : List Arg) : ME := fun ds => match mArgs args ds with
  | some (rs, ds1) => match take rs ds1 with
    | some (as, ds2) => match F as with
      | some (d, os) => some (d, put rs as os ds2)
      | none => none
    | none => none
  | none => none
section
variable (K : PySem.W.Frag) (mg : Str → Option Value) (G H : Hp) (σ : L2.St)
inductive OwnA : List V → List (Nat ⊕ D) → List Addr → Prop
  | nil : OwnA [] [] []
  | ex {v : V} {d : D} {vs : List V} {rs : List (Nat ⊕ D)} {f1 f2 : List Addr} : Owns K mg G H [v] [d] f1 → OwnA vs rs f2 → OwnA (v :: vs) (.inr d :: rs) (f1 ++ f2)
  | bo {v : V} {i : Nat} {vs : List V} {rs : List (Nat ⊕ D)} {f : List Addr} : σ[i]? = some (some v) → OwnA vs rs f → OwnA (v :: vs) (.inl i :: rs) f
end
section
variable {K : PySem.W.Frag} {mg : Str → Option Value} {f f1 f2 : List Addr} {G H G1 H1 G2 H2 : Hp} {σ : L2.St} {ds ds1 ds2 : DS} {vs ws : List V} {es es2 : List D} {x y : V} {d e : D} {rs : List (Nat ⊕ D)}
theorem OwnA.frame (h : OwnA K mg G H σ vs rs f) (g : Same G G1) (k : ∀ a ∈ f, (∀ o, H a = some o → H1 a = some o) ∧ G1 a = none) : OwnA K mg G1 H1 σ vs rs f := by
  induction h with
  | nil => exact .nil
  | ex e _ ih => exact .ex (e.frame g fun a h => k a (List.mem_append_left _ h)) (ih fun a h => k a (List.mem_append_right _ h))
  | bo e _ ih => exact .bo e (ih k)
theorem OwnA.here (h : OwnA K mg G H σ vs rs f) : ∀ a ∈ f, (∃ o, H a = some o) ∧ G a = none := by
  induction h with
  | nil => intro a h; cases h
  | ex e _ ih => intro a h; exact (List.mem_append.mp h).elim (e.here a) (ih a)
  | bo _ _ ih => exact ih
theorem OwnA.length (h : OwnA K mg G H σ vs rs f) : vs.length = rs.length := by
  induction h with
  | nil => rfl
  | _ => simp_all
def PstA (K : PySem.W.Frag) (mg : Str → Option Value) (f : List Addr) (G H : Hp) (σ : L2.St) (ds : DS) (vs : List V) (rs : List (Nat ⊕ D)) (G' H' : Hp) : Prop :=
  ∃ f1 f2, Ext f G H (f1 ++ f2) G' H' ∧ OwnS K mg G' H' σ ds f1 ∧ OwnA K mg G' H' σ vs rs f2 ∧ (f1 ++ f2).Nodup
theorem args_ok : ∀ (args : List Arg) {G H : Hp} {ds ds1 : DS} {f : List Addr} {rs : List (Nat ⊕ D)} {Q : List V → Hp → Prop}, Same G H → OwnS K mg G H σ ds f → f.Nodup → mArgs args ds = some (rs, ds1) → (∀ vs G' H', PstA K mg f G H σ ds1 vs rs G' H' → Q vs H') → tArgs K mg args σ H Q := by
  intro args
  induction args with
  | nil =>
    intro G H ds ds1 f rs Q g o n e k
    cases e
    exact k [] G H ⟨f, [], by simpa using Ext.refl g f, o, .nil, by simpa using n⟩
  | cons a r ih =>
    intro G H ds ds1 f rs Q g o n e k
    cases a with
    | ex m =>
      rw [mArgs] at e
      split at e
      · rename_i d ds2 e1
        split at e
        · rename_i rs2 ds3 e2
          cases e
          refine ⟨G, ds, f, d, ds2, g, o, n, e1, fun v G1 H1 p1 => ?_⟩
          obtain ⟨f1, f2, x1, o1, q1, n1⟩ := p1
          have nn := List.nodup_append.mp n1
          refine ih x1.gh o1 nn.1 e2 fun vs G2 H2 p2 => k _ G2 H2 ?_
          obtain ⟨g1, g2, y, o2, q2, n2⟩ := p2
          have hh := q1.here
          have nd := nodup_disj n1
          refine ⟨g1, f2 ++ g2, (x1.trans (y.frame f2 hh)).less ?_, o2, .ex (q1.frame y.gg (y.aside hh nd)) q2, ?_⟩
          · intro p hp; simp only [List.mem_append] at hp ⊢; rcases hp with h | h | h <;> simp [h]
          · have ap := y.apart hh nd
            rw [List.nodup_append] at n2 ⊢
            refine ⟨n2.1, ?_, ?_⟩
            · rw [List.nodup_append]
              exact ⟨nn.2.1, n2.2.1, fun a ha b hb e => ap a ha (List.mem_append_right _ (e ▸ hb))⟩
            · intro a ha b hb e
              rcases List.mem_append.mp hb with hb | hb
              · exact ap b hb (List.mem_append_left _ (e ▸ ha))
              · exact n2.2.2 a ha b hb e
        · cases e
      · cases e
    | bo i =>
      rw [mArgs] at e
      split at e
      · rename_i d0 hi
        obtain ⟨v, _, _, _, _, hv, _, _⟩ := o.split hi
        split at e
        · rename_i rs2 ds3 e2
          cases e
          refine ⟨v, hv, ih g o n e2 fun vs G2 H2 p2 => k _ G2 H2 ?_⟩
          obtain ⟨g1, g2, y, o2, q2, n2⟩ := p2
          exact ⟨g1, g2, y, o2, .bo hv q2, n2⟩
        · cases e
      · cases e
theorem take_ok : ∀ {rs : List (Nat ⊕ D)} {vs : List V} {ds : DS} {f1 f2 : List Addr} {as : List D} {ds2 : DS}, OwnS K mg G H σ ds f1 → OwnA K mg G H σ vs rs f2 → (f1 ++ f2).Nodup → take rs ds = some (as, ds2) →
    ∃ f3 f4, OwnS K mg G H σ ds2 f3 ∧ Owns K mg G H vs as f4 ∧ (f3 ++ f4).Nodup ∧ ∀ p ∈ f3 ++ f4, p ∈ f1 ++ f2 := by
  intro rs
  induction rs with
  | nil =>
    intro vs ds f1 f2 as ds2 o a n e
    cases e; cases a
    exact ⟨f1, [], o, .nil, n, fun p h => h⟩
  | cons r rs ih =>
    intro vs ds f1 f2 as ds2 o a n e
    cases a with
    | @ex v d vs rs g1 g2 e1 a =>
      rw [take] at e
      split at e
      · rename_i es ds3 e2
        cases e
        have n' : (f1 ++ g2).Nodup := by
          simp only [List.nodup_append, List.mem_append] at n ⊢
          exact ⟨n.1, n.2.1.2.1, fun a ha b hb => n.2.2 a ha b (.inr hb)⟩
        obtain ⟨f3, f4, o3, o4, n3, s3⟩ := ih o a n' e2
        refine ⟨f3, g1 ++ f4, o3, e1.append o4, ?_, ?_⟩
        · have hd : ∀ p ∈ g1, p ∉ f3 ++ f4 := fun p hp q => by
            have := s3 p q
            simp only [List.nodup_append, List.mem_append] at n this
            rcases this with h | h
            · exact n.2.2 p h p (.inl hp) rfl
            · exact n.2.1.2.2 p hp p h rfl
          have ng : g1.Nodup := (List.nodup_append.mp (List.nodup_append.mp n).2.1).1
          simp only [List.nodup_append, List.mem_append] at n3 hd ⊢
          exact ⟨n3.1, ⟨ng, n3.2.1, fun a ha b hb e => hd a ha (.inr (e ▸ hb))⟩, fun a ha b hb e => by
            rcases hb with hb | hb
            · exact hd b hb (.inl (e ▸ ha))
            · exact n3.2.2 a ha b hb e⟩
        · intro p hp
          simp only [List.mem_append] at hp s3 ⊢
          rcases hp with h | h | h
          · have := s3 p (.inl h); rcases this with h | h <;> simp [h]
          · simp [h]
          · have := s3 p (.inr h); rcases this with h | h <;> simp [h]
      · cases e
    | @bo v i vs rs f2 hv a =>
      rw [take] at e
      split at e
      · rename_i d hi
        split at e
        · rename_i es ds3 e2
          cases e
          obtain ⟨v', fa, fb, fc, rfl, hv', ho, kk⟩ := o.split hi
          rw [hv] at hv'; cases hv'
          cases hc : clean d with
          | true =>
            rw [hc] at e2
            have := ho.clean (clean_sing hc)
            subst this
            obtain ⟨f3, f4, o3, o4, n3, s3⟩ := ih o a n e2
            exact ⟨f3, f4, o3, ho.append o4, n3, s3⟩
          | false =>
            rw [hc] at e2
            obtain ⟨k1, _⟩ := kk G H (Same.refl G) fun a ha => ⟨fun o e => e, (o.here a (by rcases ha with h | h <;> simp [h])).2⟩
            have n' : ((fa ++ fc) ++ f2).Nodup := by
              simp only [List.nodup_append, List.mem_append] at n ⊢
              exact ⟨⟨n.1.1.1, n.1.2.1, fun a ha b hb => n.1.2.2 a (.inl ha) b hb⟩, n.2.1, fun a ha b hb => n.2.2 a (ha.elim (fun h => .inl (.inl h)) .inr) b hb⟩
            obtain ⟨f3, f4, o3, o4, n3, s3⟩ := ih k1 a n' (by simpa using e2)
            refine ⟨f3, fb ++ f4, o3, ho.append o4, ?_, ?_⟩
            · have hd : ∀ p ∈ fb, p ∉ f3 ++ f4 := fun p hp q => by
                have := s3 p q
                simp only [List.nodup_append, List.mem_append] at n this
                rcases this with (h | h) | h
                · exact n.1.1.2.2 p h p hp rfl
                · exact n.1.2.2 p (.inr hp) p h rfl
                · exact n.2.2 p (.inl (.inr hp)) p h rfl
              have ng : fb.Nodup := by
                simp only [List.nodup_append] at n; exact n.1.1.2.1
              simp only [List.nodup_append, List.mem_append] at n3 hd ⊢
              exact ⟨n3.1, ⟨ng, n3.2.1, fun a ha b hb e => hd a ha (.inr (e ▸ hb))⟩, fun a ha b hb e => by
                rcases hb with hb | hb
                · exact hd b hb (.inl (e ▸ ha))
                · exact n3.2.2 a ha b hb e⟩
            · intro p hp
              simp only [List.mem_append] at hp s3 ⊢
              rcases hp with h | h | h
              · have := s3 p (.inl h); rcases this with (h | h) | h <;> simp [h]
              · simp [h]
              · have := s3 p (.inr h); rcases this with (h | h) | h <;> simp [h]
        · cases e
      · cases e
theorem set_self {σ : L2.St} {i : Nat} {o : Option V} (h : σ[i]? = some o) : σ.set i o = σ := by
  obtain ⟨hi, e⟩ := List.getElem?_eq_some_iff.mp h
  rw [← e]; exact List.set_getElem_self hi
theorem put_ok : ∀ {rs : List (Nat ⊕ D)} {vs : List V} {as : List D} {os ds : DS} {f1 f2 fa : List Addr}, OwnS K mg G H σ ds f1 → OwnA K mg G1 H1 σ vs rs fa → OwnS K mg G H (vs.map some) os f2 → (f1 ++ f2).Nodup →
    ∃ f', OwnS K mg G H σ (put rs as os ds) f' ∧ f'.Nodup ∧ ∀ p ∈ f', p ∈ f1 ++ f2 := by
  intro rs
  induction rs with
  | nil =>
    intro vs as os ds f1 f2 fa o a q n
    exact ⟨f1, by simpa [put] using o, (List.nodup_append.mp n).1, fun p h => List.mem_append_left _ h⟩
  | cons r rs ih =>
    intro vs as os ds f1 f2 fa o a q n
    have triv : ∃ f', OwnS K mg G H σ ds f' ∧ f'.Nodup ∧ ∀ p ∈ f', p ∈ f1 ++ f2 := ⟨f1, o, (List.nodup_append.mp n).1, fun p h => List.mem_append_left _ h⟩
    cases a with
    | @ex v d vs rs g1 g2 e1 a =>
      cases as with
      | nil => simpa [put] using triv
      | cons a0 as =>
        cases os with
        | nil => simpa [put] using triv
        | cons o0 os =>
          simp only [put]
          cases q with
          | no q => exact ih o a q n
          | @yes _ _ _ _ h1 h2 e2 q =>
            obtain ⟨f', o', n', s'⟩ := ih (as := as) o a q (by
              simp only [List.nodup_append, List.mem_append] at n ⊢
              exact ⟨n.1, n.2.1.2.1, fun a ha b hb => n.2.2 a ha b (.inr hb)⟩)
            refine ⟨f', o', n', fun p hp => ?_⟩
            have := s' p hp
            simp only [List.mem_append] at this ⊢
            rcases this with h | h <;> simp [h]
    | @bo v i vs rs f2 hv a =>
      cases as with
      | nil => simpa [put] using triv
      | cons a0 as =>
        cases os with
        | nil => simpa [put] using triv
        | cons o0 os =>
          simp only [put]
          cases q with
          | no q =>
            cases hc : clean a0 with
            | true => simpa using ih o a q n
            | false =>
              obtain ⟨fa, fb, fc, rfl, kk⟩ := o.drop i
              have o1 := kk (some v)
              rw [set_self hv] at o1
              obtain ⟨f', o', n', s'⟩ := ih (as := as) o1 a q (by
                simp only [List.nodup_append, List.mem_append] at n ⊢
                exact ⟨⟨n.1.1.1, n.1.2.1, fun a ha b hb => n.1.2.2 a (.inl ha) b hb⟩, n.2.1, fun a ha b hb => n.2.2 a (ha.elim (fun h => .inl (.inl h)) .inr) b hb⟩)
              refine ⟨f', by simpa using o', n', fun p hp => ?_⟩
              have := s' p hp
              simp only [List.mem_append] at this ⊢
              rcases this with (h | h) | h <;> simp [h]
          | @yes v0 d0 _ _ h1 h2 e2 q =>
            cases hc : clean a0 with
            | true =>
              obtain ⟨f', o', n', s'⟩ := ih (as := as) o a q (by
                simp only [List.nodup_append, List.mem_append] at n ⊢
                exact ⟨n.1, n.2.1.2.1, fun a ha b hb => n.2.2 a ha b (.inr hb)⟩)
              refine ⟨f', by simpa using o', n', fun p hp => ?_⟩
              have := s' p hp
              simp only [List.mem_append] at this ⊢
              rcases this with h | h <;> simp [h]
            | false =>
              have hi : i < ds.length := by
                rw [← o.length]; exact (List.getElem?_eq_some_iff.mp hv).1
              obtain ⟨fa, fb, fc, rfl, kk⟩ := o.bind hi
              have o1 := kk v d0 h1 e2
              rw [set_self hv] at o1
              obtain ⟨f', o', n', s'⟩ := ih (as := as) o1 a q (by
                simp only [List.nodup_append, List.mem_append] at n ⊢
                exact ⟨⟨⟨n.1.1.1, n.2.1.1, fun a ha b hb => n.2.2 a (.inl (.inl ha)) b (.inl hb)⟩, n.1.2.1, fun a ha b hb => by
                  rcases ha with ha | ha
                  · exact n.1.2.2 a (.inl ha) b hb
                  · exact fun z => n.2.2 b (.inr hb) a (.inl ha) z.symm⟩, n.2.1.2.1, fun a ha b hb => by
                  rcases ha with (ha | ha) | ha
                  · exact n.2.2 a (.inl (.inl ha)) b (.inr hb)
                  · exact n.2.1.2.2 a ha b hb
                  · exact n.2.2 a (.inr ha) b (.inr hb)⟩)
              refine ⟨f', by simpa using o', n', fun p hp => ?_⟩
              have := s' p hp
              simp only [List.mem_append] at this ⊢
              rcases this with ((h | h) | h) | h <;> simp [h]
theorem mArgs_len : ∀ {args : List Arg} {ds ds1 : DS} {rs : List (Nat ⊕ D)}, mArgs args ds = some (rs, ds1) → rs.length = args.length := by
  intro args
  induction args with
  | nil => intro ds ds1 rs e; cases e; rfl
  | cons a r ih =>
    intro ds ds1 rs e1
    cases a with
    | ex m =>
      rw [mArgs] at e1
      split at e1
      · split at e1
        · rename_i e2
          cases e1
          simp [ih e2]
        · cases e1
      · cases e1
    | bo i =>
      rw [mArgs] at e1
      split at e1
      · split at e1
        · rename_i e2
          cases e1
          simp [ih e2]
        · cases e1
      · cases e1
theorem tm_call {np : Nat} {F : List D → Option (D × DS)} {args : List Arg} {E : XK} {Q : VK} (hl : args.length = np) (h : tm K mg (mCall F args) σ H Q) : tCall (spF K mg np F) [] E (tArgs K mg args) σ H Q := by
  obtain ⟨G, ds, f, d, ds', gh, o, n, e, k⟩ := h
  unfold mCall at e
  split at e
  · rename_i rs ds1 e1
    split at e
    · rename_i as ds2 e2
      split at e
      · rename_i d0 os e3
        cases e
        refine args_ok args gh o n e1 fun vs G1 H1 p1 => ?_
        obtain ⟨f1, f2, x1, o1, q1, n1⟩ := p1
        obtain ⟨f3, f4, o3, o4, n3, s3⟩ := take_ok o1 q1 n1 e2
        have nn := List.nodup_append.mp n3
        have hrs : rs.length = args.length := mArgs_len e1
        show spF K mg np F (vs ++ []) H1 Q E
        rw [List.append_nil]
        refine ⟨by rw [q1.length, hrs, hl], G1, as, f4, _, _, x1.gh, o4, nn.2.1, e3, fun v G2 H2 p2 => k v G2 H2 ?_⟩
        obtain ⟨g1, g2, y, o5, q5, n5⟩ := p2
        have hh := o3.here
        have nd : ∀ p ∈ f3, p ∉ f4 := fun p h q => nodup_disj n3 p q h
        have o3' := o3.frame y.gg (y.aside hh nd)
        have ap := y.apart hh nd
        have n5' := List.nodup_append.mp n5
        obtain ⟨f', o', n', s'⟩ := put_ok (as := as) o3' q1 o5 (by
          rw [List.nodup_append]
          exact ⟨nn.1, n5'.1, fun a ha b hb e => ap a ha (List.mem_append_left _ (e ▸ hb))⟩)
        have z : Ext (f4 ++ f3) G1 H1 ((g1 ++ g2) ++ f3) G2 H2 := y.frame f3 hh
        have z0 : Ext f G H (f4 ++ f3) G1 H1 := x1.less fun p hp => s3 p (by simp only [List.mem_append] at hp ⊢; exact hp.symm)
        refine ⟨f', g2, (z0.trans z).less ?_, o', q5, ?_⟩
        · intro p hp
          simp only [List.mem_append] at hp s' ⊢
          rcases hp with h | h
          · rcases s' p h with h | h <;> simp [h]
          · simp [h]
        · rw [List.nodup_append]
          refine ⟨n', n5'.2.1, fun a ha b hb e => ?_⟩
          rcases List.mem_append.mp (s' a ha) with h | h
          · exact ap a h (List.mem_append_right _ (e ▸ hb))
          · exact n5'.2.2 a h b hb e
      · cases e
    · cases e
  · cases e
abbrev XAr (X : Cx) (es : List Expr) (args : List Arg) : Prop := PA X es (tArgs X.K X.mg args)
theorem xr_nil {X : Cx} : XAr X [] [] := pa_nil
theorem xr_ex {X : Cx} {e : Expr} {es : List Expr} {m : ME} {r : List Arg} (ha : XE X e m) (hr : XAr X es r) (hs : starEach (e :: es) X.env = (false, eval e X.env) :: starEach es X.env := by rfl) : XAr X (e :: es) (.ex m :: r) := pa_cons ha hr hs
theorem xr_bo {X : Cx} (i : Nat) {nm : Str} {p : Pos} {es : List Expr} {r : List Arg} (hr : XAr X es r) (hN : X.N[i]? = some nm := by rfl) (hv : Vis X.env.scope nm := by first | exact Or.inl rfl | exact Or.inr (Or.inl rfl) | exact Or.inr (Or.inr rfl)) (hd : (nm == ("__debug__" : Str)) = false := by decide) (hcd : (nm == ("__classdict__" : Str)) = false := by decide) (hs : starEach (.Name nm p :: es) X.env = (false, eval (.Name nm p) X.env) :: starEach es X.env := by rfl) : XAr X (.Name nm p :: es) (.bo i :: r) := pa_cons (pe_var hN hv hd hcd) hr hs
theorem xe_call {X : Cx} {k : Nat} {nm : Str} {np : Nat} {F : List D → Option (D × DS)} {p pos : Pos} {e : Expr} {es : List Expr} {args : List Arg} (D : Def X.prog X.w X.K X.mg X.base k nm np F) (hr : Room k X.A) (ha : XAr X (e :: es) args) (hg : Gl X nm := by rfl) (hl : args.length = np := by rfl) (hdb : (nm == ("__debug__" : Str)) = false := by decide) (he : starEach (e :: es) X.env = (false, eval e X.env) :: starEach es X.env := by rfl) (hpl : (backTo pos (starEach es X.env)).any (·.1) = false := by rfl) : XE X (.Call (.Name nm p) (e :: es) [] pos) (mCall F args) := by
  obtain ⟨f, fd, ps, hm, hk, hb, hn, G⟩ := D.ex
  exact PE.mono (pe_call G hr hg hm hk hb .nil (fun _ _ _ _ _ _ _ h => h.elim) ha hdb he hpl (E := fun _ _ _ => False)) fun _ _ _ h => tm_call hl h
end
end Z
namespace Z
open PySem PySem.Spec L2
section
variable {K : PySem.W.Frag} {mg : Str → Option Value} {f f1 f2 : List Addr} {G H G1 H1 G2 H2 : Hp} {σ : L2.St} {ds ds1 ds2 : DS} {vs ws : List V} {es es2 : List D} {x y : V} {d e : D} {X : Cx} {Q : VK} {fx : Nat → Bool} {E : Ends}
/-! ### x[i] = e -/
theorem Owns.set (h : Owns K mg G H vs es f) : ∀ {j : Nat} {v : V} {d : D} {g : List Addr}, Owns K mg G H [v] [d] g → (f ++ g).Nodup → j < es.length → ∃ f', Owns K mg G H (vs.set j v) (es.set j d) f' ∧ f'.Nodup ∧ ∀ p ∈ f', p ∈ f ++ g := by
  have key : ∀ (es : List D) (vs : List V) (f : List Addr), Owns K mg G H vs es f → ∀ {j : Nat} {v : V} {d : D} {g : List Addr}, Owns K mg G H [v] [d] g → (f ++ g).Nodup → j < es.length → ∃ f', Owns K mg G H (vs.set j v) (es.set j d) f' ∧ f'.Nodup ∧ ∀ p ∈ f', p ∈ f ++ g := by
    intro es
    induction es with
    | nil => intro vs f h j v d g _ _ hj; simp at hj
    | cons d0 es ih =>
      intro vs f h j v d g hg n hj
      cases vs with
      | nil => cases h
      | cons v0 vs =>
        obtain ⟨f1, f2, rfl, h1, h2⟩ := h.cons_inv
        cases j with
        | zero =>
          refine ⟨g ++ f2, by simpa using hg.append h2, ?_, ?_⟩
          · simp only [List.nodup_append, List.mem_append] at n ⊢
            exact ⟨n.2.1, n.1.2.1, fun a ha b hb z => n.2.2 b (.inr hb) a ha z.symm⟩
          · intro p hp; simp only [List.mem_append] at hp ⊢; rcases hp with h | h <;> simp [h]
        | succ j =>
          obtain ⟨f', o', n', s'⟩ := ih vs f2 h2 (j := j) hg (by
            simp only [List.nodup_append, List.mem_append] at n ⊢
            exact ⟨n.1.2.1, n.2.1, fun a ha b hb => n.2.2 a (.inr ha) b hb⟩) (by simpa using hj)
          refine ⟨f1 ++ f', by simpa using h1.append o', ?_, ?_⟩
          · simp only [List.nodup_append, List.mem_append] at n s' ⊢
            exact ⟨n.1.1, n', fun a ha b hb => by
              rcases s' b hb with h | h
              · exact n.1.2.2 a ha b h
              · exact n.2.2 a (.inl ha) b h⟩
          · intro p hp
            simp only [List.mem_append] at hp s' ⊢
            rcases hp with h | h
            · simp [h]
            · rcases s' p h with h | h <;> simp [h]
  intro j v d g
  exact key es vs f h
/-- the own list at slot i is changed -/
def mSetIx (i : Nat) (mi me : ME) : MS := fun ds => match me ds with
  | some (d, ds1) => match ds1[i]? with
    | some (some _) => match mi ds1 with
      | some (.v (.int k), ds2) => match ds2[i]? with
        | some (some (.lst .own es)) => match ixN es.length k with
          | some j => some (.nx (ds2.set i (some (.lst .own (es.set j d)))))
          | none => none
        | _ => none
      | _ => none
    | _ => none
  | none => none
theorem ts_setIx {i : Nat} {mi me : ME} (h : ts K mg fx (mSetIx i mi me) E σ H) : tAsg (tm K mg me) (gSub (tVar i) (tm K mg mi) rSetL) E σ H := by
  obtain ⟨G, ds, f, out, gh, o, n, e, k⟩ := h
  unfold mSetIx at e
  split at e
  · rename_i d ds1 e1
    split at e
    · rename_i d9 h9
      split at e
      · rename_i kk ds2 e2
        split at e
        · rename_i es h2
          split at e
          · rename_i j hj
            cases e
            refine ⟨G, ds, f, d, ds1, gh, o, n, e1, fun x G1 H1 p1 => ?_⟩
            obtain ⟨f1, f2, x1, o1, q1, n1⟩ := p1
            obtain ⟨v, _, _, _, _, hv, _, _⟩ := o1.split h9
            refine ⟨v, hv, G1, ds1, f1, _, ds2, x1.gh, o1, (List.nodup_append.mp n1).1, e2, fun y G2 H2 p2 => ?_⟩
            have p3 := Pst.and x1 o1 q1 n1 p2
            obtain ⟨g1, g2, x2, o2, q2, n2⟩ := p3
            obtain ⟨ga, gb, rfl, qa, qb⟩ := q2.two
            obtain ⟨rfl, rfl⟩ := qb.v_inv
            obtain ⟨v', fa, fb, fc, rfl, hv', ho, kk2⟩ := o2.split h2
            rw [hv] at hv'; cases hv'
            obtain ⟨a, xs, f', rfl, eH, eG, w, rfl⟩ := ho.own_inv
            refine ⟨a, xs, _, j, rfl, rfl, eH, by rw [w.length]; exact hj, k σ (FixS.refl _ _) G2 _ ?_⟩
            have hjl : j < es.length := by
              have := (ixN_seq hj).2.1; exact this
            have nn : (f' ++ ga).Nodup := by
              simp only [List.nodup_append, List.mem_append, List.nodup_cons, List.mem_cons, List.append_nil] at n2 ⊢
              exact ⟨n2.1.1.2.1.2, n2.2.1, fun p hp q hq => n2.2.2 p (.inl (.inr (.inr hp))) q hq⟩
            obtain ⟨f3, w3, n3, s3⟩ := w.set qa nn hjl
            have hd : ∀ p, p ∈ fa ∨ p ∈ fc ∨ p ∈ f3 → p ≠ a := by
              intro p hp z
              subst z
              simp only [List.nodup_append, List.mem_append, List.nodup_cons, List.mem_cons, List.append_nil] at n2 s3
              rcases hp with hp | hp | hp
              · exact n2.1.1.2.2 p hp p (.inl rfl) rfl
              · exact n2.1.2.2 p (.inr (.inl rfl)) p hp rfl
              · rcases s3 p hp with h | h
                · exact n2.1.1.2.1.1 h
                · exact n2.2.2 p (.inl (.inr (.inl rfl))) p h rfl
            have hk : ∀ p, p ≠ a → ∀ u, H2 p = some u → upd H2 a (.lst (xs.set j x)) p = some u := fun p hp u e => by rw [upd_ne hp]; exact e
            have w4 : Owns K mg G2 (upd H2 a (.lst (xs.set j x))) (xs.set j x) (es.set j d) f3 := w3.frame (Same.refl G2) fun p hp => ⟨hk p (hd p (.inr (.inr hp))), (w3.here p hp).2⟩
            have hgh : Same G2 (upd H2 a (.lst (xs.set j x))) := fun p u e => hk p (fun z => by subst z; rw [eG] at e; cases e) u (x2.gh p u e)
            obtain ⟨_, k2⟩ := kk2 G2 (upd H2 a (.lst (xs.set j x))) (Same.refl G2) fun p hp => ⟨hk p (hd p (by rcases hp with h | h <;> simp [h])), (o2.here p (by rcases hp with h | h <;> simp [h])).2⟩
            have o5 := k2 _ _ (Owns.ol upd_same eG w4 .nil)
            refine ⟨_, [], ?_, o5, .nil, ?_⟩
            · refine ⟨hgh, x2.gg, fun p u e hp => ?_, fun p hp => ?_, x2.gn⟩
              · refine hk p (fun z => ?_) u (x2.keep p u e hp)
                subst z
                rcases x2.fpn p (by simp) with h | h
                · exact hp h
                · rw [h] at e; cases e
              · refine x2.fpn p ?_
                simp only [List.mem_append, List.mem_cons, List.append_nil] at hp s3 ⊢
                rcases hp with (h | h | h) | h
                · simp [h]
                · simp [h]
                · rcases s3 p h with h | h <;> simp [h]
                · simp [h]
            · simp only [List.nodup_append, List.mem_append, List.nodup_cons, List.mem_cons, List.append_nil] at n2 s3 ⊢
              refine ⟨⟨n2.1.1.1, ⟨fun h => hd a (.inr (.inr h)) rfl, n3⟩, fun p hp q hq z => ?_⟩, n2.1.2.1, fun p hp q hq z => ?_⟩
              · rcases hq with hq | hq
                · exact hd p (.inl hp) (z.trans hq)
                · rcases s3 q hq with h | h
                  · exact n2.1.1.2.2 p hp q (.inr h) z
                  · exact n2.2.2 p (.inl (.inl hp)) q h z
              · rcases hp with hp | hp | hp
                · exact n2.1.2.2 p (.inl hp) q hq z
                · exact hd q (.inr (.inl hq)) (z.symm.trans hp)
                · rcases s3 p hp with h | h
                  · exact n2.1.2.2 p (.inr (.inr h)) q hq z
                  · exact n2.2.2 q (.inr hq) p h z.symm
          · cases e
        · cases e
      · cases e
    · cases e
  · cases e
theorem xs_setIx (i : Nat) {nm : Str} {p : Pos} {b e : Expr} {pos pos' : Pos} {mi me : ME} (he : XE X e me) (hb : XE X b mi) (hN : X.N[i]? = some nm := by rfl) (hv : Vis X.env.scope nm := by first | exact Or.inl rfl | exact Or.inr (Or.inl rfl) | exact Or.inr (Or.inr rfl)) (hd : (nm == ("__debug__" : Str)) = false := by decide) (hcd : (nm == ("__classdict__" : Str)) = false := by decide)
    (ha : ∀ v, assign (.Subscript (.Name nm p) b pos) X.env v = (do let ov ← holding [v] (eval (.Name nm p) X.env); let iv ← holding [v, ov] (eval b X.env); standAt pos; holding [v, ov, iv] (setItem ov iv v); release [v, ov, iv] []) := by intro _; rfl)
    (hs : swapsWithSole [.Subscript (.Name nm p) b pos] e pos'.line X.env = pure false := by rfl) (hw : swappedStores [.Subscript (.Name nm p) b pos] e X.env = pure none := by rfl) (h1 : (assignEach [.Subscript (.Name nm p) b pos] X.env).map (·.2) = [assign (.Subscript (.Name nm p) b pos) X.env] := by rfl) : XS X fx (.Assign [.Subscript (.Name nm p) b pos] e pos') (mSetIx i mi me) :=
  PS.mono (ps_asg he (pg_sub (pe_var hN hv hd hcd) hb set_list ha) hs hw h1) fun _ _ _ h => ts_setIx h
/-! ### x += e for ints -/
def mAug (i : Nat) (g : Int → Int → Int) (me : ME) : MS := fun ds => match ds[i]? with
  | some (some (.v (.int a))) => match me ds with
    | some (.v (.int b), ds1) => (setSlot i (.v (.int (g a b))) ds1).map .nx
    | _ => none
  | _ => none
theorem ts_aug {i : Nat} {g : Int → Int → Int} {me : ME} (hf : fx i = false) (h : ts K mg fx (mAug i g me) E σ H) : tAug i (tm K mg me) (ipI g) E σ H := by
  obtain ⟨G, ds, f, out, gh, o, n, e, k⟩ := h
  unfold mAug at e
  split at e
  · rename_i a hi
    obtain ⟨v, _, _, _, _, hv, ho, _⟩ := o.split hi
    obtain ⟨rfl, _⟩ := ho.v_inv
    split at e
    · rename_i b ds1 e1
      cases hs : setSlot i (.v (.int (g a b))) ds1 with
      | none => rw [hs] at e; cases e
      | some ds2 =>
        rw [hs] at e; cases e
        refine ⟨_, hv, G, ds, f, _, ds1, gh, o, n, e1, fun y G1 H1 p1 => ?_⟩
        obtain ⟨f1, f2, x1, o1, q1, n1⟩ := p1
        obtain ⟨rfl, rfl⟩ := q1.v_inv
        exact ⟨a, b, rfl, rfl, k _ (FixS.set σ _ hf) G1 H1 (Pst.bind (d := .v (.int (g a b))) ⟨f1, [], x1, o1, .v .nil, n1⟩ hs)⟩
    · cases e
  · cases e
theorem xs_add (i : Nat) {nm : Str} {e : Expr} {me : ME} {pos pos' : Pos} (hN : X.N.Nodup) (he : XE X e me) (hf : fx i = false := by rfl) (hi : X.N[i]? = some nm := by rfl) (hx : Loc X.env.scope nm := by first | exact Or.inl rfl | exact Or.inr rfl) (hff : X.fn nm = true ∨ X.env.scope.names.lookup nm = some .local := by first | exact .inl rfl | exact .inr rfl) : XS X fx (.AugAssign (.Name nm pos') .Add e pos) (mAug i (fun a b => a + b) me) :=
  PS.mono (ps_aug hN hi hx he ip_add hff) fun _ _ _ h => ts_aug hf h
theorem xs_sub (i : Nat) {nm : Str} {e : Expr} {me : ME} {pos pos' : Pos} (hN : X.N.Nodup) (he : XE X e me) (hf : fx i = false := by rfl) (hi : X.N[i]? = some nm := by rfl) (hx : Loc X.env.scope nm := by first | exact Or.inl rfl | exact Or.inr rfl) (hff : X.fn nm = true ∨ X.env.scope.names.lookup nm = some .local := by first | exact .inl rfl | exact .inr rfl) : XS X fx (.AugAssign (.Name nm pos') .Sub e pos) (mAug i (fun a b => a - b) me) :=
  PS.mono (ps_aug hN hi hx he ip_sub hff) fun _ _ _ h => ts_aug hf h
/-! ### what is walked -/
/-- the iterator gives these, whatever comes about meanwhile -/
def ItD (K : PySem.W.Frag) (mg : Str → Option Value) (J : It) (items : List D) (G : Hp) : Prop := ∀ G' H', Same G G' → Same G' H' →
  (∀ i, items.length ≤ i → J.stop i H') ∧ ∀ i d, items[i]? = some d → J.go i H' ∧ ∀ x H'', J.yld i H' x H'' → ∃ G'', Ext [] G' H' [] G'' H'' ∧ Owns K mg G'' H'' [x] [d] []
def ti (K : PySem.W.Frag) (mg : Str → Option Value) (m : MA) : TI := fun σ H R => ∃ G ds f items ds', Same G H ∧ OwnS K mg G H σ ds f ∧ f.Nodup ∧ m ds = some (items, ds') ∧ ∀ J G' H', Pst K mg f G H σ ds' [] [] G' H' → ItD K mg J items G' → R J H'
abbrev XI (X : Cx) (tg e : Expr) (m : MA) : Prop := PI X tg e (ti X.K X.mg m)
theorem PI.mono {tg e : Expr} {t t' : TI} (h : PI X tg e t) (k : ∀ σ H Q, t' σ H Q → t σ H Q) : PI X tg e t' := ⟨fun pins s σ H Q I q => h.run pins s σ H Q I (k σ H Q q)⟩
theorem Owns.lst_inv2 {o : O} (h : Owns K mg G H [x] [.lst o es] f) (g : Same G H) : ∃ a xs f', x = .ref a ∧ SqL K H a xs ∧ Owns K mg G H xs es f' ∧ (∀ p ∈ f', p ∈ f) ∧ ∀ G', Same G G' → (∀ p ∈ f, ∀ u, H p = some u → G' p = some u) → SqL K G' a xs := by
  cases h with
  | el e a b => cases b; exact ⟨_, _, _, rfl, sqL_mono g e, a, by simp, fun G' g' _ => sqL_mono g' e⟩
  | fl e a b => cases b; exact ⟨_, _, _, rfl, .inl (.inl (g _ _ e)), a, by simp, fun G' g' _ => .inl (.inl (g' _ _ e))⟩
  | ol e n a b => cases b; exact ⟨_, _, _, rfl, .inl (.inl e), a, by simp; intro p h; exact .inr h, fun G' _ k => .inl (.inl (k _ (by simp) _ e))⟩
/-- the items of a datum, frozen -/
def itemsL : D → Option (List D)
  | .lst _ es => if cleans (fzs es) then some (fzs es) else none
  | _ => none
def itemsT : D → Option (List D)
  | .tup es => if cleans (fzs es) then some (fzs es) else none
  | _ => none
def mIt (g : D → Option (List D)) (m : ME) : MA := fun ds => match m ds with
  | some (d, ds1) => match g d with
    | some es => some (es, ds1)
    | none => none
  | none => none
theorem itd_list {a : Addr} {xs : List V} (h : SqL K G a xs) (o : ∀ G' H', Same G G' → Owns K mg G' H' xs es []) : ItD K mg (Itl K a) es G := by
  intro G' H' g gh
  have hs : SqL K H' a xs := sqL_mono gh (sqL_mono g h)
  have hl := (o G' H' g).length
  refine ⟨fun i hi => ⟨xs, hs, by omega⟩, fun i d hd => ?_⟩
  obtain ⟨v, f', e1, e2, s1, _⟩ := (o G' H' g).item hd
  have : f' = [] := by
    cases f' with
    | nil => rfl
    | cons p r => exact absurd (s1 p (by simp)) (by simp)
  subst this
  refine ⟨⟨xs, v, hs, e1⟩, fun x H'' hy => ?_⟩
  obtain ⟨rfl, hy⟩ := hy
  have := hy xs hs
  rw [e1] at this; cases this
  exact ⟨G', Ext.refl gh [], e2⟩
theorem itd_tup {a : Addr} {xs : List V} (h : SqT K G a xs) (o : ∀ G' H', Same G G' → Owns K mg G' H' xs es []) : ItD K mg (Itt K a) es G := by
  intro G' H' g gh
  have hs : SqT K H' a xs := sqT_mono gh (sqT_mono g h)
  have hl := (o G' H' g).length
  refine ⟨fun i hi => ⟨xs, hs, by omega⟩, fun i d hd => ?_⟩
  obtain ⟨v, f', e1, e2, s1, _⟩ := (o G' H' g).item hd
  have : f' = [] := by
    cases f' with
    | nil => rfl
    | cons p r => exact absurd (s1 p (by simp)) (by simp)
  subst this
  refine ⟨⟨xs, v, hs, e1⟩, fun x H'' hy => ?_⟩
  obtain ⟨rfl, hy⟩ := hy
  have := hy xs hs
  rw [e1] at this; cases this
  exact ⟨G', Ext.refl gh [], e2⟩
/-- what is owned beside the slots is frozen -/
theorem Pst.freeze {ws : List V} {es : List D} (x1 : Ext f G H (f1 ++ f2) G1 H1) (o1 : OwnS K mg G1 H1 σ ds f1) (q1 : Owns K mg G1 H1 ws es f2) (n1 : (f1 ++ f2).Nodup) : ∃ G', Pst K mg f G H σ ds [] [] G' H1 ∧ Same G1 G' ∧ (∀ p ∈ f2, ∀ u, H1 p = some u → G' p = some u) ∧ Same G' H1 := by
  let G' : Hp := fun a => if a ∈ f2 then H1 a else G1 a
  have hb := q1.here
  have gG : Same G1 G' := fun b u e => by
    show (if b ∈ f2 then H1 b else G1 b) = some u
    rw [if_neg (fun h => by have := (hb b h).2; rw [this] at e; cases e)]; exact e
  have gH : Same G' H1 := fun b u e => by
    by_cases h : b ∈ f2
    · have : G' b = H1 b := if_pos h
      rw [this] at e; exact e
    · have : G' b = G1 b := if_neg h
      rw [this] at e; exact x1.gh b u e
  have nd := nodup_disj n1
  refine ⟨G', ⟨f1, [], ?_, ?_, .nil, by simpa using (List.nodup_append.mp n1).1⟩, gG, fun p h u e => by show (if p ∈ f2 then H1 p else G1 p) = some u; rw [if_pos h]; exact e, gH⟩
  · refine ⟨gH, x1.gg.trans gG, x1.keep, fun p hp => x1.fpn p (by simp at hp; simp [hp]), fun p u g hp e => ?_⟩
    have h1 := x1.gn p u g hp e
    show (if p ∈ f2 then H1 p else G1 p) = none
    rw [if_neg (fun h => by
      rcases x1.fpn p (List.mem_append_right _ h) with h | h
      · exact hp h
      · rw [h] at e; cases e)]
    exact h1
  · exact o1.frame gG fun p hp => ⟨fun u e => e, by show (if p ∈ f2 then H1 p else G1 p) = none; rw [if_neg (fun h => nd p h hp)]; exact (o1.here p hp).2⟩
theorem ti_list {m : ME} {R : It → Hp → Prop} (h : ti K mg (mIt itemsL m) σ H R) : iList K (tm K mg m) σ H R := by
  obtain ⟨G, ds, f, items, ds', g, o, n, e, k⟩ := h
  unfold mIt at e
  split at e
  · rename_i d ds1 e1
    split at e
    · rename_i es e2
      cases e
      refine ⟨G, ds, f, d, _, g, o, n, e1, fun v G1 H1 p1 => ?_⟩
      obtain ⟨f1, f2, x1, o1, q1, n1⟩ := p1
      unfold itemsL at e2
      split at e2
      · split at e2
        · rename_i oo es c
          cases e2
          obtain ⟨G', p', g', k', gh'⟩ := Pst.freeze x1 o1 q1 n1
          obtain ⟨a, xs, f', rfl, hs, w, s1, hG⟩ := q1.lst_inv2 x1.gh
          have hs' := hG G' g' k'
          exact ⟨a, rfl, ⟨xs, hs⟩, k _ G' H1 p' (itd_list hs' fun G2 H2 g2 => w.freeze c (g'.trans g2) fun p hp u e => g2 p u (k' p (s1 p hp) u e))⟩
        · cases e2
      · cases e2
    · cases e
  · cases e
end
end Z
namespace Z
open PySem PySem.Spec L2
section
variable {K : PySem.W.Frag} {mg : Str → Option Value} {f f1 f2 : List Addr} {G H G1 H1 G2 H2 : Hp} {σ : L2.St} {ds ds1 ds2 : DS} {vs ws : List V} {es es2 : List D} {x y : V} {d e : D} {X : Cx} {Q : VK} {fx : Nat → Bool} {E : Ends}
theorem ti_tup {m : ME} {R : It → Hp → Prop} (h : ti K mg (mIt itemsT m) σ H R) : iTup K (tm K mg m) σ H R := by
  obtain ⟨G, ds, f, items, ds', g, o, n, e, k⟩ := h
  unfold mIt at e
  split at e
  · rename_i d ds1 e1
    split at e
    · rename_i es e2
      cases e
      refine ⟨G, ds, f, d, _, g, o, n, e1, fun v G1 H1 p1 => ?_⟩
      obtain ⟨f1, f2, x1, o1, q1, n1⟩ := p1
      unfold itemsT at e2
      split at e2
      · split at e2
        · rename_i es c
          cases e2
          obtain ⟨G', p', g', k', gh'⟩ := Pst.freeze x1 o1 q1 n1
          obtain ⟨a, xs, rfl, hs, hs0, w⟩ := q1.tup_inv x1.gh
          exact ⟨a, rfl, ⟨xs, hs⟩, k _ G' H1 p' (itd_tup (sqT_mono g' hs0) fun G2 H2 g2 => w.freeze c (g'.trans g2) fun p hp u e => g2 p u (k' p hp u e))⟩
        · cases e2
      · cases e2
    · cases e
  · cases e
theorem xi_list {tg e : Expr} {m : ME} (h : XE X e m) : XI X tg e (mIt itemsL m) := PI.mono (pi_list h) fun _ _ _ q => ti_list q
theorem xi_tup {tg e : Expr} {m : ME} (h : XE X e m) : XI X tg e (mIt itemsT m) := PI.mono (pi_tup h) fun _ _ _ q => ti_tup q
/-! ranges -/
def rangeD (lo : Int) (n : Nat) : List D := (List.range n).map fun (i : Nat) => .v (.int (lo + (i : Int)))
def mRng : List D → Option (List D)
  | [.v (.int j)] => if j < 1000000000 ∧ -1000000000 < j then some (rangeD 0 j.toNat) else none
  | [.v (.int i), .v (.int j)] => if i < 1000000000 ∧ -1000000000 < i ∧ j < 1000000000 ∧ -1000000000 < j then some (rangeD i (j - i).toNat) else none
  | _ => none
def mRngA (m : MA) : MA := fun ds => match m ds with
  | some (es, ds1) => match mRng es with
    | some r => some (r, ds1)
    | none => none
  | none => none
theorem itd_range {lo : Int} {n : Nat} : ItD K mg (Itr lo n) (rangeD lo n) G := by
  intro G' H' g gh
  refine ⟨fun i hi => show n ≤ i by simpa [rangeD] using hi, fun i d hd => ?_⟩
  unfold rangeD at hd
  rw [List.getElem?_map] at hd
  cases hr : (List.range n)[i]? with
  | none => rw [hr] at hd; cases hd
  | some j =>
    rw [hr] at hd; cases hd
    obtain ⟨hi, e⟩ := List.getElem?_eq_some_iff.mp hr
    have hi' : i < n := by simpa using hi
    have : j = i := by simpa using e.symm
    subst this
    refine ⟨hi', fun x H'' hy => ?_⟩
    obtain ⟨rfl, rfl⟩ := hy
    exact ⟨G', Ext.refl gh [], .v .nil⟩
theorem vals1 (h : Owns K mg G H vs [.v x] f) : vs = [x] ∧ f = [] := by
  cases vs with
  | nil => cases h
  | cons v vs =>
    obtain ⟨f1, f2, rfl, h1, h2⟩ := h.cons_inv
    cases h2
    obtain ⟨rfl, rfl⟩ := h1.v_inv
    exact ⟨rfl, rfl⟩
theorem vals2 (h : Owns K mg G H vs [.v x, .v y] f) : vs = [x, y] ∧ f = [] := by
  cases vs with
  | nil => cases h
  | cons v vs =>
    obtain ⟨f1, f2, rfl, h1, h2⟩ := h.cons_inv
    obtain ⟨rfl, rfl⟩ := vals1 h2
    obtain ⟨rfl, rfl⟩ := h1.v_inv
    exact ⟨rfl, rfl⟩
theorem ti_rng1 {m : MA} {R : It → Hp → Prop} (hone : ∀ ds es ds', m ds = some (es, ds') → es.length = 1) (h : ti K mg (mRngA m) σ H R) : iRng1 (ta K mg m) σ H R := by
  obtain ⟨G, ds, f, items, ds', g, o, n, e, k⟩ := h
  unfold mRngA at e
  split at e
  · rename_i es ds1 e1
    have hl := hone _ _ _ e1
    split at e
    · rename_i r e2
      cases e
      refine ⟨G, ds, f, es, _, g, o, n, e1, fun vs G1 H1 p1 => ?_⟩
      obtain ⟨f1, f2, x1, o1, q1, n1⟩ := p1
      unfold mRng at e2
      split at e2
      · split at e2
        · rename_i j c
          cases e2
          obtain ⟨rfl, rfl⟩ := vals1 q1
          exact ⟨j, rfl, by omega, by omega, k _ G1 H1 ⟨f1, [], x1, o1, .nil, n1⟩ itd_range⟩
        · cases e2
      · simp at hl
      · cases e2
    · cases e
  · cases e
theorem ti_rng2 {m : MA} {R : It → Hp → Prop} (hone : ∀ ds es ds', m ds = some (es, ds') → es.length = 2) (h : ti K mg (mRngA m) σ H R) : iRng2 (ta K mg m) σ H R := by
  obtain ⟨G, ds, f, items, ds', g, o, n, e, k⟩ := h
  unfold mRngA at e
  split at e
  · rename_i es ds1 e1
    have hl := hone _ _ _ e1
    split at e
    · rename_i r e2
      cases e
      refine ⟨G, ds, f, es, _, g, o, n, e1, fun vs G1 H1 p1 => ?_⟩
      obtain ⟨f1, f2, x1, o1, q1, n1⟩ := p1
      unfold mRng at e2
      split at e2
      · simp at hl
      · split at e2
        · rename_i i j c
          cases e2
          obtain ⟨rfl, rfl⟩ := vals2 q1
          exact ⟨i, j, rfl, ⟨by omega, by omega, by omega, by omega⟩, k _ G1 H1 ⟨f1, [], x1, o1, .nil, n1⟩ itd_range⟩
        · cases e2
      · cases e2
    · cases e
  · cases e
theorem mCons_len {m : ME} {r : MA} {n : Nat} (h : ∀ ds es ds', r ds = some (es, ds') → es.length = n) : ∀ ds es ds', mCons m r ds = some (es, ds') → es.length = n + 1 := by
  intro ds es ds' e
  unfold mCons at e
  split at e
  · split at e
    · rename_i e2
      cases e
      simp [h _ _ _ e2]
    · cases e
  · cases e
theorem mNil_len : ∀ ds es ds', mNil ds = some (es, ds') → es.length = 0 := by intro ds es ds' e; cases e; rfl
theorem xi_rng1 {tg a : Expr} {m : ME} {p pos : Pos} (hm : X.mg "range" = none) (ha : XE X a m) (hg : Gl X "range" := by rfl) (hs0 : starEach [a] X.env = (false, eval a X.env) :: starEach [] X.env := by rfl) (hs : starEach [a] X.env = [(false, eval a X.env)] := by rfl) : XI X tg (.Call (.Name "range" p) [a] [] pos) (mRngA (mCons m mNil)) :=
  PI.mono (pi_range1 hg hm (xa_cons ha xa_nil hs0) hs) fun _ _ _ q => ti_rng1 (mCons_len mNil_len) q
theorem xi_rng2 {tg a b : Expr} {m mb : ME} {p pos : Pos} (hm : X.mg "range" = none) (ha : XE X a m) (hb : XE X b mb) (hg : Gl X "range" := by rfl) (hs0 : starEach [a, b] X.env = (false, eval a X.env) :: starEach [b] X.env := by rfl) (hs1 : starEach [b] X.env = (false, eval b X.env) :: starEach [] X.env := by rfl) (hs : starEach [a, b] X.env = [(false, eval a X.env), (false, eval b X.env)] := by rfl) (hs2 : starEach [b] X.env = [(false, eval b X.env)] := by rfl) : XI X tg (.Call (.Name "range" p) [a, b] [] pos) (mRngA (mCons m (mCons mb mNil))) :=
  PI.mono (pi_range2 hg hm (xa_cons ha (xa_cons hb xa_nil hs1) hs0) hs hs2) fun _ _ _ q => ti_rng2 (mCons_len (mCons_len mNil_len)) q
/-! ### targets -/
abbrev MG := D → DS → Option DS
abbrev MGs := List D → DS → Option DS
def tg (K : PySem.W.Frag) (mg : Str → Option Value) (fx : Nat → Bool) (m : MG) : TG := fun x σ H Q => ∃ G ds f d ds', Same G H ∧ OwnS K mg G H σ ds f ∧ f.Nodup ∧ Owns K mg G H [x] [d] [] ∧ m d ds = some ds' ∧ ∀ σ' G' H', FixS fx σ σ' → Pst K mg f G H σ' ds' [] [] G' H' → Q σ' H'
def tgs (K : PySem.W.Frag) (mg : Str → Option Value) (fx : Nat → Bool) (m : MGs) : TGs := fun xs σ H Q => ∃ G ds f es ds', Same G H ∧ OwnS K mg G H σ ds f ∧ f.Nodup ∧ Owns K mg G H xs es [] ∧ m es ds = some ds' ∧ ∀ σ' G' H', FixS fx σ σ' → Pst K mg f G H σ' ds' [] [] G' H' → Q σ' H'
theorem PG.mono {e : Expr} {t t' : TG} (h : PG X e t) (k : ∀ x σ H Q, t' x σ H Q → t x σ H Q) : PG X e t' := ⟨fun pins s σ H v u Q I r q => h.run pins s σ H v u Q I r (k v σ H Q q)⟩
theorem PGs.mono {e : List Expr} {t t' : TGs} (h : PGs X e t) (k : ∀ x σ H Q, t' x σ H Q → t x σ H Q) : PGs X e t' := ⟨fun pins s σ H v u Q I r q => h.run pins s σ H v u Q I r (k v σ H Q q)⟩
abbrev XG (X : Cx) (fx : Nat → Bool) (e : Expr) (m : MG) : Prop := PG X e (tg X.K X.mg fx m)
abbrev XGs (X : Cx) (fx : Nat → Bool) (e : List Expr) (m : MGs) : Prop := PGs X e (tgs X.K X.mg fx m)
def gNm (i : Nat) : MG := fun d ds => setSlot i d ds
def gNl : MGs := fun es ds => match es with
  | [] => some ds
  | _ => none
def gCs (a : MG) (r : MGs) : MGs := fun es ds => match es with
  | d :: es => match a d ds with
    | some ds1 => r es ds1
    | none => none
  | [] => none
def gTu (n : Nat) (m : MGs) : MG := fun d ds => match d with
  | .tup es => if es.length = n then m es ds else none
  | _ => none
theorem xg_name (i : Nat) {nm : Str} {pos : Pos} (hN : X.N.Nodup) (hf : fx i = false := by rfl) (hi : X.N[i]? = some nm := by rfl) (hx : Loc X.env.scope nm := by first | exact Or.inl rfl | exact Or.inr rfl) (hff : X.fn nm = true ∨ X.env.scope.names.lookup nm = some .local := by first | exact .inl rfl | exact .inr rfl) : XG X fx (.Name nm pos) (gNm i) :=
  PG.mono (pg_name hN hi hx hff) fun x σ H Q h => by
    obtain ⟨G, ds, f, d, ds', g, o, n, w, e, k⟩ := h
    exact k _ G H (FixS.set σ _ hf) (Pst.bind (d := d) ⟨f, [], by simpa using Ext.refl g f, o, w, by simpa using n⟩ e)
theorem xg_nil : XGs X fx [] gNl := PGs.mono pgs_nil fun xs σ H Q h => by
  obtain ⟨G, ds, f, es, ds', g, o, n, w, e, k⟩ := h
  cases es with
  | nil =>
    have := w.length
    have : xs = [] := List.eq_nil_of_length_eq_zero this
    subst this
    cases e
    exact ⟨rfl, k σ G H (FixS.refl _ _) (Pst.refl g o n)⟩
  | cons d es => cases e
theorem xg_cons {e : Expr} {es : List Expr} {a : MG} {r : MGs} (h1 : XG X fx e a) (h2 : XGs X fx es r) (hs : (assignEach (e :: es) X.env).map (·.2) = assign e X.env :: (assignEach es X.env).map (·.2) := by rfl) : XGs X fx (e :: es) (gCs a r) := PGs.mono (pgs_cons h1 h2 hs) fun xs σ H Q h => by
  obtain ⟨G, ds, f, es, ds', g, o, n, w, e, k⟩ := h
  cases es with
  | nil => cases e
  | cons d es =>
    cases xs with
    | nil => cases w
    | cons x xs =>
      obtain ⟨f1, f2, hf, w1, w2⟩ := w.cons_inv
      have hff := List.append_eq_nil_iff.mp hf.symm
      obtain ⟨rfl, rfl⟩ := hff
      unfold gCs at e
      split at e
      · rename_i d0 es0 hh
        cases hh
        split at e
        · rename_i ds1 e1
          refine ⟨x, xs, rfl, G, ds, f, d, ds1, g, o, n, w1, e1, fun σ1 G1 H1 hx p1 => ?_⟩
          obtain ⟨f1, f2, x1, o1, q1, n1⟩ := p1
          cases q1
          exact ⟨G1, ds1, f1, es, ds', x1.gh, o1, (List.nodup_append.mp n1).1, w2.frame x1.gg (fun _ h => by cases h), e, fun σ2 G2 H2 hx2 p2 => k σ2 G2 H2 (hx.trans hx2) (Pst.nil_trans x1 p2)⟩
        · cases e
      · rename_i hh; cases hh
theorem xg_tup {es : List Expr} {kk : Nat} {pos : Pos} {m : MGs} {n : Nat} (hc : X.calm = true) (h : XGs X fx es m) (hn : (assignEach es X.env).length = n := by rfl) (hst : (assignEach es X.env).findIdx? (·.1) = none := by rfl) : XG X fx (.Tuple es kk pos) (gTu n m) := PG.mono (pg_tup hc h hn hst) fun x σ H Q h => by
  obtain ⟨G, ds, f, d, ds', g, o, n, w, e, k⟩ := h
  unfold gTu at e
  split at e
  · split at e
    · rename_i es0 c
      obtain ⟨a, xs, rfl, hs, _, w1⟩ := w.tup_inv g
      exact ⟨a, xs, rfl, hs, by rw [w1.length]; exact c, G, ds, f, _, ds', g, o, n, w1, e, k⟩
    · cases e
  · cases e
/-! ### for -/
def forL (a : MG) (b : MS) : List D → DS → Option Out
  | [], ds => some (.nx ds)
  | x :: r, ds => match a x ds with
    | some ds1 => match b ds1 with
      | some (.nx ds2) => forL a b r ds2
      | some (.ct ds2) => forL a b r ds2
      | some (.bk ds2) => some (.nx ds2)
      | some (.rt d ds2) => some (.rt d ds2)
      | none => none
    | none => none
def mFor (mi : MA) (a : MG) (b : MS) : MS := fun ds => match mi ds with
  | some (items, ds1) => forL a b items ds1
  | none => none
theorem ts_for {mi : MA} {a : MG} {b : MS} (h : ts K mg fx (mFor mi a b) E σ H) : tFor (ti K mg mi) (tg K mg fx a) (ts K mg fx b) E σ H := by
  obtain ⟨G, ds, f, out, gh, o, n, e, k⟩ := h
  unfold mFor at e
  split at e
  · rename_i items ds1 e1
    refine ⟨G, ds, f, items, ds1, gh, o, n, e1, fun J G1 H1 p1 hJ => ?_⟩
    obtain ⟨f1, f2, x1, o1, q1, n1⟩ := p1
    cases q1
    refine ⟨fun i m σ' H' => m = items.length - i ∧ FixS fx σ σ' ∧ ∃ G' ds' f', Ext f G H f' G' H' ∧ Same G1 G' ∧ OwnS K mg G' H' σ' ds' f' ∧ f'.Nodup ∧ forL a b (items.drop i) ds' = some out,
      ⟨items.length, rfl, FixS.refl _ _, G1, ds1, f1, by simpa using x1, Same.refl G1, o1, (List.nodup_append.mp n1).1, by simpa using e⟩, fun i m σ' H' hW => ?_⟩
    obtain ⟨rfl, hx, G', ds', f', x', g', o', n', e'⟩ := hW
    obtain ⟨hstop, hgo⟩ := hJ G' H' g' x'.gh
    by_cases hi : items.length ≤ i
    · refine .inl ⟨hstop i hi, ?_⟩
      rw [List.drop_of_length_le hi] at e'
      cases e'
      exact k σ' hx G' H' ⟨f', [], by simpa using x', o', .nil, by simpa using n'⟩
    · have hlt : i < items.length := by omega
      obtain ⟨hg, hy⟩ := hgo i items[i] (List.getElem?_eq_getElem hlt)
      refine .inr ⟨hg, _, fun σ2 H2 hN => hN, fun x H2 hyl => ?_⟩
      obtain ⟨G2, y2, w2⟩ := hy x H2 hyl
      have hE : Ext f' G' H' f' G2 H2 := by
        have := y2.frame f' o'.here
        simpa using this
      have o2 : OwnS K mg G2 H2 σ' ds' f' := o'.frame y2.gg (y2.aside o'.here (by simp))
      rw [List.drop_eq_getElem_cons hlt] at e'
      unfold forL at e'
      split at e'
      · rename_i ds2 e2
        refine ⟨G2, ds', f', items[i], ds2, y2.gh, o2, n', w2, e2, fun σ3 G3 H3 hx3 p3 => ?_⟩
        obtain ⟨f3, f4, x3, o3, q3, n3⟩ := p3
        cases q3
        have x3' : Ext f' G2 H2 f3 G3 H3 := by simpa using x3
        have xx : Ext f G H f3 G3 H3 := (x'.trans hE).trans x3'
        have gg : Same G1 G3 := (g'.trans y2.gg).trans x3'.gg
        have fin : ∀ {σ4 : L2.St} {ds4 : DS} {G4 H4 : Hp} {vs : List V} {es : List D}, Pst K mg f3 G3 H3 σ4 ds4 vs es G4 H4 → Pst K mg f G H σ4 ds4 vs es G4 H4 := fun p => Pst.nil_trans (by simpa using xx) p
        have nxt : ∀ {σ4 : L2.St} {ds4 : DS} {G4 H4 : Hp}, FixS fx σ3 σ4 → Pst K mg f3 G3 H3 σ4 ds4 [] [] G4 H4 → forL a b (items.drop (i + 1)) ds4 = some out →
            ∃ m', m' < items.length - i ∧ m' = items.length - (i + 1) ∧ FixS fx σ σ4 ∧ ∃ G' ds' f', Ext f G H f' G' H4 ∧ Same G1 G' ∧ OwnS K mg G' H4 σ4 ds' f' ∧ f'.Nodup ∧ forL a b (items.drop (i + 1)) ds' = some out := by
          intro σ4 ds4 G4 H4 hx4 p4 e4
          obtain ⟨f5, f6, x5, o5, q5, n5⟩ := p4
          cases q5
          have x5' : Ext f3 G3 H3 f5 G4 H4 := by simpa using x5
          exact ⟨_, by omega, rfl, (hx.trans hx3).trans hx4, G4, ds4, f5, xx.trans x5', gg.trans x5'.gg, o5, (List.nodup_append.mp n5).1, e4⟩
        split at e'
        · rename_i ds4 e4
          exact ⟨G3, ds2, f3, _, x3'.gh, o3, (List.nodup_append.mp n3).1, e4, fun σ4 hx4 G4 H4 p4 => nxt hx4 p4 e'⟩
        · rename_i ds4 e4
          exact ⟨G3, ds2, f3, _, x3'.gh, o3, (List.nodup_append.mp n3).1, e4, fun σ4 hx4 G4 H4 p4 => nxt hx4 p4 e'⟩
        · rename_i ds4 e4
          cases e'
          exact ⟨G3, ds2, f3, _, x3'.gh, o3, (List.nodup_append.mp n3).1, e4, fun σ4 hx4 G4 H4 p4 => k σ4 ((hx.trans hx3).trans hx4) G4 H4 (fin p4)⟩
        · rename_i d4 ds4 e4
          cases e'
          exact ⟨G3, ds2, f3, _, x3'.gh, o3, (List.nodup_append.mp n3).1, e4, fun σ4 hx4 v G4 H4 p4 => k σ4 ((hx.trans hx3).trans hx4) v G4 H4 (fin p4)⟩
        · cases e'
      · cases e'
  · cases e
theorem xs_for {tge iter : Expr} {body : List Stmt} {pos : Pos} {mi : MA} {a : MG} {b : MS} (hp : PassesOwn (model X.prog X.w) X.A X.env X.xe) (hc : X.calm = true) (hi : XI X tge iter mi) (hg : XG X fx tge a) (hb : XB X fx body b) (hs : ∀ x, foldedSetIterable iter X.env x = pure x := by intro _; rfl) : XS X fx (.For tge iter body [] pos) (mFor mi a b) :=
  PS.mono (ps_for hp hc hi hg hb hs) fun _ _ _ h => ts_for h
end
end Z
namespace Z
open PySem PySem.Spec L2
section
variable {K : PySem.W.Frag} {mg : Str → Option Value} {f f1 f2 : List Addr} {G H G1 H1 G2 H2 : Hp} {σ : L2.St} {ds ds1 ds2 : DS} {vs ws : List V} {es es2 : List D} {x y : V} {d e : D} {X : Cx} {Q : VK} {fx : Nat → Bool} {E : Ends}
def wipeD (ds : DS) : List Nat → DS
  | [] => ds
  | v :: vs => (wipeD ds vs).set v none
theorem wipeD_length (ds : DS) : ∀ vs : List Nat, (wipeD ds vs).length = ds.length
  | [] => rfl
  | v :: vs => by rw [wipeD, List.length_set, wipeD_length ds vs]
theorem wipeD_get {ds : DS} {i : Nat} {d : D} : ∀ {vs : List Nat}, (wipeD ds vs)[i]? = some (some d) → ds[i]? = some (some d) ∧ i ∉ vs
  | [], h => ⟨h, by simp⟩
  | v :: vs, h => by
    rw [wipeD] at h
    by_cases e : v = i
    · subst e
      rw [List.getElem?_set_self'] at h
      cases hh : (wipeD ds vs)[v]? with
      | none => rw [hh] at h; cases h
      | some o => rw [hh] at h; cases h
    · rw [List.getElem?_set_ne e] at h
      obtain ⟨a, b⟩ := wipeD_get h
      exact ⟨a, by simp; exact ⟨fun z => e z.symm, b⟩⟩
theorem OwnS.weaken (h : OwnS K mg G H σ ds f) : ∀ {σ2 : L2.St} {ds2 : DS}, σ2.length = σ.length → ds2.length = ds.length → (∀ (i : Nat) (d : D), ds2[i]? = some (some d) → ds[i]? = some (some d) ∧ σ2[i]? = σ[i]?) → ∃ f', OwnS K mg G H σ2 ds2 f' ∧ (∀ p ∈ f', p ∈ f) ∧ (f.Nodup → f'.Nodup) := by
  induction h with
  | nil =>
    intro σ2 ds2 h1 h2 _
    have e1 := List.eq_nil_of_length_eq_zero h1
    have e2 := List.eq_nil_of_length_eq_zero h2
    subst e1; subst e2
    exact ⟨[], .nil, by simp, fun n => n⟩
  | @no o σ ds f h ih =>
    intro σ2 ds2 h1 h2 k
    cases σ2 with
    | nil => simp at h1
    | cons o2 σ2 =>
      cases ds2 with
      | nil => simp at h2
      | cons e2 ds2 =>
        obtain ⟨f', a, b, c⟩ := ih (σ2 := σ2) (ds2 := ds2) (by simpa using h1) (by simpa using h2) fun i d hd => by simpa using k (i + 1) d (by simpa using hd)
        cases e2 with
        | none => exact ⟨f', .no a, b, c⟩
        | some d =>
          have := (k 0 d rfl).1
          simp at this
  | @yes v0 d0 σ ds g1 g2 e0 h ih =>
    intro σ2 ds2 h1 h2 k
    cases σ2 with
    | nil => simp at h1
    | cons o2 σ2 =>
      cases ds2 with
      | nil => simp at h2
      | cons e2 ds2 =>
        obtain ⟨f', a, b, c⟩ := ih (σ2 := σ2) (ds2 := ds2) (by simpa using h1) (by simpa using h2) fun i d hd => by simpa using k (i + 1) d (by simpa using hd)
        cases e2 with
        | none => exact ⟨f', .no a, fun p hp => List.mem_append_right _ (b p hp), fun n => c (List.nodup_append.mp n).2.1⟩
        | some d =>
          have := k 0 d rfl
          have e1 : d0 = d := by simpa using this.1
          have e3 : o2 = some v0 := by simpa using this.2
          subst e1; subst e3
          refine ⟨g1 ++ f', .yes e0 a, fun p hp => ?_, fun n => ?_⟩
          · rcases List.mem_append.mp hp with h | h
            · exact List.mem_append_left _ h
            · exact List.mem_append_right _ (b p h)
          · have nn := List.nodup_append.mp n
            rw [List.nodup_append]
            exact ⟨nn.1, c nn.2.1, fun a ha q hq => nn.2.2 a ha q (b q hq)⟩
theorem wipe_get {σ : L2.St} {i : Nat} : ∀ {vs : List Nat}, i ∉ vs → (wipe σ vs)[i]? = σ[i]?
  | [], _ => rfl
  | v :: vs, h => by
    rw [wipe, List.getElem?_set_ne (fun z => h (by simp [z]))]
    exact wipe_get fun z => h (by simp [z])
theorem OwnS.wiped (h : OwnS K mg G H σ ds f) (ws : List Nat) : ∃ f', OwnS K mg G H (wipe σ ws) (wipeD ds ws) f' ∧ (∀ p ∈ f', p ∈ f) ∧ (f.Nodup → f'.Nodup) :=
  h.weaken (wipe_length σ ws) (wipeD_length ds ws) fun i d hd => let ⟨a, b⟩ := wipeD_get hd; ⟨a, wipe_get b⟩
/-- from a turn's slots back to the wiped ones -/
theorem OwnS.rewiped {σ2 : L2.St} (h : OwnS K mg G H σ2 ds f) (ws : List Nat) (hl : σ2.length = σ.length) (hs : ∀ i, i ∉ ws → σ2[i]? = σ[i]?) : (∃ f', OwnS K mg G H (wipe σ ws) (wipeD ds ws) f' ∧ (∀ p ∈ f', p ∈ f) ∧ (f.Nodup → f'.Nodup)) ∧ ∃ f', OwnS K mg G H σ (wipeD ds ws) f' ∧ (∀ p ∈ f', p ∈ f) ∧ (f.Nodup → f'.Nodup) :=
  ⟨h.weaken (by rw [wipe_length, hl]) (wipeD_length ds ws) fun i d hd => let ⟨a, b⟩ := wipeD_get hd; ⟨a, by rw [wipe_get b, hs i b]⟩,
   h.weaken hl.symm (wipeD_length ds ws) fun i d hd => let ⟨a, b⟩ := wipeD_get hd; ⟨a, (hs i b).symm⟩⟩
theorem wipe_ext {σ σ2 : L2.St} {ws : List Nat} (hl : σ2.length = σ.length) (hs : ∀ i, i ∉ ws → σ2[i]? = σ[i]?) : wipe σ2 ws = wipe σ ws := by
  apply List.ext_getElem?
  intro i
  by_cases h : i ∈ ws
  · have key : ∀ (τ : L2.St) (ws : List Nat), i ∈ ws → (wipe τ ws)[i]? = if i < τ.length then some none else none := by
      intro τ ws
      induction ws with
      | nil => intro h; cases h
      | cons v vs ih =>
        intro h
        rw [wipe]
        by_cases e : v = i
        · subst e
          rw [List.getElem?_set_self']
          have hw := wipe_length τ vs
          by_cases hi : v < τ.length
          · rw [if_pos hi, List.getElem?_eq_getElem (by omega)]; rfl
          · rw [if_neg hi, List.getElem?_eq_none (by omega)]; rfl
        · rw [List.getElem?_set_ne e]
          exact ih (by rcases List.mem_cons.mp h with h | h; · exact absurd h.symm e
                       · exact h)
    rw [key σ2 ws h, key σ ws h, hl]
  · rw [wipe_get h, wipe_get h, hs i h]
def lcL (a : MG) (t : MT) (m : ME) (ws : List Nat) : List D → DS → Option (List D × DS)
  | [], ds => some ([], ds)
  | x :: r, ds => match a x ds with
    | some ds1 => match t ds1 with
      | some (true, ds2) => match m ds2 with
        | some (d, ds3) => match lcL a t m ws r (wipeD ds3 ws) with
          | some (es, ds4) => some (d :: es, ds4)
          | none => none
        | none => none
      | some (false, ds2) => lcL a t m ws r (wipeD ds2 ws)
      | none => none
    | none => none
def mLc (mi : MA) (a : MG) (t : MT) (m : ME) (ws : List Nat) : ME := fun ds => match mi ds with
  | some (items, ds1) => if items.length ≤ 1000000 then match lcL a t m ws items (wipeD ds1 ws) with
    | some (es, ds2) => some (.lst .own es, ds2)
    | none => none
    else none
  | none => none
def mYes : MT := fun ds => some (true, ds)
def notIn (ws : List Nat) : Nat → Bool := fun i => !ws.contains i
theorem fix_out {ws : List Nat} {σ σ2 : L2.St} (h : FixS (notIn ws) (wipe σ ws) σ2) : σ2.length = σ.length ∧ ∀ i, i ∉ ws → σ2[i]? = σ[i]? :=
  ⟨by rw [h.1, wipe_length], fun i hi => by rw [h.2 i (by simp [notIn, hi]), wipe_get hi]⟩
theorem tm_lc {mi : MA} {a : MG} {t : MT} {m : ME} {ws : List Nat} (h : tm K mg (mLc mi a t m ws) σ H Q) : tLc (ti K mg mi) (tg K mg (notIn ws) a) (tt K mg t) (tm K mg m) ws σ H Q := by
  obtain ⟨G, ds, f, d, ds', gh, o, n, e, k⟩ := h
  unfold mLc at e
  split at e
  · rename_i items ds1 e1
    split at e
    · rename_i hsz
      split at e
      · rename_i total dsF e2
        cases e
        refine ⟨G, ds, f, items, ds1, gh, o, n, e1, fun J G1 H1 p1 hJ Dl hD => ?_⟩
        obtain ⟨f1, f2, x1, o1, q1, n1⟩ := p1
        cases q1
        have x1' : Ext f G H f1 G1 H1 := by simpa using x1
        have n1' := (List.nodup_append.mp n1).1
        obtain ⟨g1, w1, s1, m1⟩ := o1.wiped ws
        have gD := not_g x1'.gh hD
        refine ⟨fun i mm H' => mm = items.length - i ∧ ∃ G' dsw f' acc accv fa rest, Ext f G H (f' ++ (Dl :: fa)) G' H' ∧ Same G1 G' ∧ OwnS K mg G' H' (wipe σ ws) (wipeD dsw ws) f' ∧ H' Dl = some (.lst accv) ∧ G' Dl = none ∧ Owns K mg G' H' accv acc fa ∧ (f' ++ (Dl :: fa)).Nodup ∧ acc.length ≤ i ∧ lcL a t m ws (items.drop i) (wipeD dsw ws) = some (rest, ds') ∧ acc ++ rest = total,
          ⟨items.length, rfl, G1, ds1, g1, [], [], [], total, ?_, Same.refl G1, ?_, upd_same, gD, .nil, ?_, Nat.le_refl _, by simpa using e2, rfl⟩, fun i mm H' hW => ?_⟩
        · have := Ext.new (f := f1) (o := .lst []) x1'.gh hD
          refine (x1'.trans this).less fun p hp => ?_
          rcases List.mem_append.mp hp with h | h
          · exact List.mem_cons_of_mem _ (s1 p h)
          · rcases List.mem_cons.mp h with rfl | h
            · exact List.mem_cons_self
            · cases h
        · exact w1.frame (Same.refl G1) fun p hp => ⟨fun u e => by rw [upd_ne (ne_of_none e hD)]; exact e, (w1.here p hp).2⟩
        · rw [List.nodup_append]
          refine ⟨m1 n1', by simp, fun p hp q hq z => ?_⟩
          have : q = Dl := by simpa using hq
          subst this; subst z
          obtain ⟨u, e⟩ := (w1.here p hp).1
          rw [hD] at e; cases e
        · obtain ⟨rfl, G', dsw, f', acc, accv, fa, rest, x', g', o', eD, eG, wa, n', hac, e', htot⟩ := hW
          obtain ⟨hstop, hgo⟩ := hJ G' H' g' x'.gh
          by_cases hi : items.length ≤ i
          · refine .inl ⟨hstop i hi, ?_⟩
            rw [List.drop_of_length_le hi, lcL] at e'
            cases e'
            rw [List.append_nil] at htot
            subst htot
            obtain ⟨f'', o2, s2, m2⟩ := o'.weaken (σ2 := σ) (ds2 := wipeD dsw ws) (wipe_length σ ws).symm rfl fun i d hd => ⟨hd, (wipe_get (wipeD_get hd).2).symm⟩
            have nn := List.nodup_append.mp n'
            refine k _ G' H' ⟨f'', Dl :: (fa ++ []), x'.less fun p hp => ?_, o2, .ol eD eG wa .nil, ?_⟩
            · simp only [List.mem_append, List.mem_cons, List.append_nil] at hp ⊢
              rcases hp with h | h
              · exact .inl (s2 p h)
              · exact .inr h
            · rw [List.append_nil, List.nodup_append]
              exact ⟨m2 nn.1, nn.2.1, fun p hp q hq => nn.2.2 p (s2 p hp) q hq⟩
          · have hlt : i < items.length := by omega
            obtain ⟨hg, hy⟩ := hgo i items[i] (List.getElem?_eq_getElem hlt)
            refine .inr ⟨hg, _, fun H2 hN => hN, fun x H2 hyl => ?_⟩
            obtain ⟨G2, y2, w2⟩ := hy x H2 hyl
            -- the frame: the list and its items
            have hfr : ∀ p ∈ Dl :: fa, (∃ o, H' p = some o) ∧ G' p = none := fun p hp => by
              rcases List.mem_cons.mp hp with rfl | hp
              · exact ⟨⟨_, eD⟩, eG⟩
              · exact wa.here p hp
            have hE : Ext f' G' H' f' G2 H2 := by
              have := y2.frame f' o'.here
              simpa using this
            have o2 : OwnS K mg G2 H2 (wipe σ ws) (wipeD dsw ws) f' := o'.frame y2.gg (y2.aside o'.here (by simp))
            have nn := List.nodup_append.mp n'
            rw [List.drop_eq_getElem_cons hlt, lcL] at e'
            split at e'
            · rename_i dsa ea
              refine ⟨G2, _, f', items[i], dsa, y2.gh, o2, nn.1, w2, ea, fun σ3 G3 H3 hx3 p3 => ?_⟩
              obtain ⟨f3, f4, x3, o3, q3, n3⟩ := p3
              cases q3
              have x3' : Ext f' G' H' f3 G3 H3 := hE.trans (by simpa using x3)
              have n3' := (List.nodup_append.mp n3).1
              obtain ⟨hl3, hs3⟩ := fix_out hx3
              refine ⟨wipe_ext hl3 hs3, ?_⟩
              split at e'
              · rename_i dsb eb
                refine ⟨G3, dsa, f3, true, dsb, x3'.gh, o3, n3', eb, fun G4 H4 p4 => ?_⟩
                obtain ⟨f5, f6, x4, o4, q4, n4⟩ := p4
                cases q4
                have x4' : Ext f' G' H' f5 G4 H4 := x3'.trans (by simpa using x4)
                show tm K mg m σ3 H4 _
                split at e'
                · rename_i dd dsc ec
                  refine ⟨G4, dsb, f5, dd, dsc, x4'.gh, o4, (List.nodup_append.mp n4).1, ec, fun y5 G5 H5 p5 => ?_⟩
                  obtain ⟨f7, f8, x5, o5, q5, n5⟩ := p5
                  have x5' : Ext f' G' H' (f7 ++ f8) G5 H5 := x4'.trans x5
                  split at e'
                  · rename_i rest' dsd ed
                    cases e'
                    have hfr5 := x5'.aside hfr (fun p hp hq => nn.2.2 p hq p hp rfl)
                    have ap5 := x5'.apart hfr (fun p hp hq => nn.2.2 p hq p hp rfl)
                    have eD5 : H5 Dl = some (.lst accv) := (hfr5 Dl (by simp)).1 _ eD
                    have eG5 : G5 Dl = none := (hfr5 Dl (by simp)).2
                    have wa5 : Owns K mg G5 H5 accv acc fa := wa.frame x5'.gg fun p hp => hfr5 p (List.mem_cons_of_mem _ hp)
                    obtain ⟨⟨f9, o9, s9, m9⟩, _⟩ := o5.rewiped (σ := σ) ws hl3 hs3
                    have hk : ∀ p, p ≠ Dl → ∀ u, H5 p = some u → upd H5 Dl (.lst (accv ++ [y5])) p = some u := fun p hp u e => by rw [upd_ne hp]; exact e
                    have nd7 := List.nodup_append.mp n5
                    have hne : ∀ p, p ∈ f9 ∨ p ∈ fa ∨ p ∈ f8 → p ≠ Dl := by
                      intro p hp z
                      subst z
                      rcases hp with h | h | h
                      · exact ap5 p (by simp) (List.mem_append_left _ (s9 p h))
                      · exact (List.nodup_cons.mp nn.2.1).1 h
                      · exact ap5 p (by simp) (List.mem_append_right _ h)
                    refine ⟨accv, eD5, ?_, items.length - (i + 1), by omega, rfl, G5, dsc, f9, acc ++ [dd], accv ++ [y5], fa ++ f8, rest', ?_, g'.trans x5'.gg, ?_, upd_same, eG5, ?_, ?_, ?_, ed, ?_⟩
                    · rw [wa5.length, sizeLine_eq]; omega
                    · have xx : Ext f G H ((f7 ++ f8) ++ (Dl :: fa)) G5 H5 := x'.trans (x5'.frame (Dl :: fa) hfr)
                      refine ⟨fun p u e => hk p (fun z => by subst z; rw [eG5] at e; cases e) u (xx.gh p u e), xx.gg, fun p u e hp => ?_, fun p hp => ?_, xx.gn⟩
                      · refine hk p (fun z => ?_) u (xx.keep p u e hp)
                        subst z
                        rcases xx.fpn p (by simp) with h | h
                        · exact hp h
                        · rw [h] at e; cases e
                      · refine xx.fpn p ?_
                        simp only [List.mem_append, List.mem_cons] at hp s9 ⊢
                        rcases hp with h | h | h | h
                        · exact .inl (.inl (s9 p h))
                        · exact .inr (.inl h)
                        · exact .inr (.inr h)
                        · exact .inl (.inr h)
                    · exact o9.frame (Same.refl G5) fun p hp => ⟨hk p (hne p (.inl hp)), (o9.here p hp).2⟩
                    · exact (wa5.append q5).frame (Same.refl G5) fun p hp => ⟨hk p (hne p (by rcases List.mem_append.mp hp with h | h <;> simp [h])), ((wa5.append q5).here p hp).2⟩
                    · have nfa := (List.nodup_cons.mp nn.2.1).2
                      rw [List.nodup_append, List.nodup_cons, List.nodup_append]
                      refine ⟨m9 nd7.1, ⟨fun h => hne Dl (by rcases List.mem_append.mp h with h | h <;> simp [h]) rfl, nfa, nd7.2.1, fun p hp q hq z => ?_⟩, fun p hp q hq z => ?_⟩
                      · exact ap5 p (List.mem_cons_of_mem _ hp) (List.mem_append_right _ (z ▸ hq))
                      · rcases List.mem_cons.mp hq with h | h
                        · exact hne p (.inl hp) (z.trans h)
                        · rcases List.mem_append.mp h with h | h
                          · exact ap5 q (List.mem_cons_of_mem _ h) (List.mem_append_left _ (z ▸ s9 p hp))
                          · exact nd7.2.2 p (s9 p hp) q h z
                    · simp; omega
                    · rw [List.append_assoc]; exact htot
                  · cases e'
                · cases e'
              · rename_i dsb eb
                refine ⟨G3, dsa, f3, false, dsb, x3'.gh, o3, n3', eb, fun G4 H4 p4 => ?_⟩
                obtain ⟨f5, f6, x4, o4, q4, n4⟩ := p4
                cases q4
                have x4' : Ext f' G' H' f5 G4 H4 := x3'.trans (by simpa using x4)
                have hfr5 := x4'.aside hfr (fun p hp hq => nn.2.2 p hq p hp rfl)
                have ap5 := x4'.apart hfr (fun p hp hq => nn.2.2 p hq p hp rfl)
                obtain ⟨⟨f9, o9, s9, m9⟩, _⟩ := o4.rewiped (σ := σ) ws hl3 hs3
                have xx : Ext f G H (f5 ++ (Dl :: fa)) G4 H4 := x'.trans (x4'.frame (Dl :: fa) hfr)
                show ∃ m', _
                refine ⟨items.length - (i + 1), by omega, rfl, G4, dsb, f9, acc, accv, fa, rest, xx.less fun p hp => ?_, g'.trans x4'.gg, o9, (hfr5 Dl (by simp)).1 _ eD, (hfr5 Dl (by simp)).2, wa.frame x4'.gg fun p hp => hfr5 p (List.mem_cons_of_mem _ hp), ?_, by omega, e', htot⟩
                · simp only [List.mem_append, List.mem_cons] at hp ⊢
                  rcases hp with h | h
                  · exact .inl (s9 p h)
                  · exact .inr h
                · rw [List.nodup_append]
                  exact ⟨m9 (List.nodup_append.mp n4).1, nn.2.1, fun p hp q hq z => ap5 q hq (z ▸ s9 p hp)⟩
              · cases e'
            · cases e'
      · cases e
    · cases e
  · cases e
theorem tt_yes {Q : Bool → Hp → Prop} (h : tt K mg mYes σ H Q) : tYes σ H Q := by
  obtain ⟨G, ds, f, b, ds', g, o, n, e, k⟩ := h
  cases e
  exact k G H (Pst.refl g o n)
abbrev XTs (X : Cx) (ifs : List Expr) (m : MT) : Prop := PTs X ifs (tt X.K X.mg m)
theorem PTs.mono {ifs : List Expr} {t t' : TT} (h : PTs X ifs t) (k : ∀ σ H Q, t' σ H Q → t σ H Q) : PTs X ifs t' := ⟨fun pins s σ H Q I q => h.run pins s σ H Q I (k σ H Q q)⟩
theorem xts_nil : XTs X [] mYes := PTs.mono pts_nil fun _ _ _ h => tt_yes h
theorem xts_one {c : Expr} {m : MT} (h : XT X c m) : XTs X [c] m := pts_one h
theorem xe_lc (own : List (Str × Nat)) {elt tge iter : Expr} {ifs : List Expr} {scope : Scope} {pos : Pos} {mi : MA} {a : MG} {t : MT} {m : ME} (hN : X.N.Nodup) (hi : XI X tge iter mi) (ok : BlkOk X.N X.env.scope scope own)
    (hg : ∀ (s : Shared) (H : Hp) (C : Addr) (cl : List (Str × Addr)) (fp : List Addr), XG (X.blk s H scope (PySem.compEnvC scope cl C X.env) fp) (notIn (own.map (·.2))) tge a)
    (ht : ∀ (s : Shared) (H : Hp) (C : Addr) (cl : List (Str × Addr)) (fp : List Addr), XTs (X.blk s H scope (PySem.compEnvC scope cl C X.env) fp) ifs t)
    (he : ∀ (s : Shared) (H : Hp) (C : Addr) (cl : List (Str × Addr)) (fp : List Addr), XE (X.blk s H scope (PySem.compEnvC scope cl C X.env) fp) elt m) (hc : X.calm = true := by rfl) (hs : ∀ x, foldedSetIterable iter X.env x = pure x := by intro _; rfl) : XE X (.ListComp elt [⟨tge, iter, ifs, 0⟩] scope pos) (mLc mi a t m (own.map (·.2))) :=
  PE.mono (pe_lc hc hN hi ok hg ht he hs) fun _ _ _ h => tm_lc h
theorem xs_setLc (i : Nat) (own : List (Str × Nat)) {y : Str} {py : Pos} {elt tge iter : Expr} {ifs : List Expr} {scope : Scope} {pos spos : Pos} {mi : MA} {a : MG} {t : MT} {m : ME} (hN : X.N.Nodup) (hi : XI X tge iter mi) (ok : BlkOk X.N X.env.scope scope own)
    (hg : ∀ (s : Shared) (H : Hp) (C : Addr) (cl : List (Str × Addr)) (fp : List Addr), XG (X.blk s H scope (PySem.compEnvC scope cl C X.env) fp) (notIn (own.map (·.2))) tge a)
    (ht : ∀ (s : Shared) (H : Hp) (C : Addr) (cl : List (Str × Addr)) (fp : List Addr), XTs (X.blk s H scope (PySem.compEnvC scope cl C X.env) fp) ifs t)
    (he : ∀ (s : Shared) (H : Hp) (C : Addr) (cl : List (Str × Addr)) (fp : List Addr), XE (X.blk s H scope (PySem.compEnvC scope cl C X.env) fp) elt m)
    (hf : fx i = false := by rfl) (hy : X.N[i]? = some y := by rfl) (hyl : X.env.scope.names.lookup y = some .local := by rfl) (hsw : swapsWith (.ListComp elt [⟨tge, iter, ifs, 0⟩] scope pos) (some (.Name y py)) spos.line X.env = pure true := by exact sw_true rfl rfl rfl (by decide +kernel)) (hc : X.calm = true := by rfl) (hs : ∀ x, foldedSetIterable iter X.env x = pure x := by intro _; rfl) : XS X fx (.Assign [.Name y py] (.ListComp elt [⟨tge, iter, ifs, 0⟩] scope pos) spos) (mAsg i (mLc mi a t m (own.map (·.2)))) :=
  PS.mono (ps_setLc hc hN hy hyl hsw hi ok hg ht he hs) fun D σ H h => by
    have := ts_asg hf h
    exact tm_lc this
end
end Z
namespace Z
open PySem PySem.Spec L2
section
variable {K : PySem.W.Frag} {mg : Str → Option Value} {f f1 f2 : List Addr} {G H G1 H1 G2 H2 : Hp} {σ : L2.St} {ds ds1 ds2 : DS} {vs ws : List V} {es es2 : List D} {x y : V} {d e : D} {X : Cx} {Q : VK} {fx : Nat → Bool} {E : Ends}
/-! ### what stands at the top -/
structure KV (K : PySem.W.Frag) (mg : Str → Option Value) (x : Str) (d : D) : Prop where
  ex : ∃ v u, mg x = some u ∧ RelV v u ∧ ∀ G H, Owns K mg G H [v] [d] []
def mK (d : D) : ME := fun ds => some (d, ds)
theorem xe_kv {nm : Str} {pos : Pos} (h : KV X.K X.mg nm d) (hg : Gl X nm := by rfl) (hd : (nm == ("__debug__" : Str)) = false := by decide) : XE X (.Name nm pos) (mK d) := by
  obtain ⟨v, u, hm, r, o⟩ := h.ex
  refine PE.mono (pe_glob hg hm r hd) fun σ H Q q => ?_
  obtain ⟨G, ds, f, d', ds', g, os, n, e, k⟩ := q
  cases e
  exact k v G H ⟨f, [], by simpa using Ext.refl g f, os, o G H, by simpa using n⟩
/-- a built-in class as a value -/
theorem xe_ty {nm : Str} {T : String} {pos : Pos} (hm : X.mg nm = none) (hv : bootBuiltins nm = some (.type T)) (hg : Gl X nm := by rfl) (hn : nm ≠ "__name__" := by decide) (hd : (nm == ("__debug__" : Str)) = false := by decide) : XE X (.Name nm pos) (mC (.ty T)) :=
  PE.mono (pe_bltn hg hm hv (show RelV (.ty T) (.type T) from rfl) hn hd) fun _ _ _ h => tm_c h
theorem kv_int {nm : Str} {i : Int} {t : Tok} (h : mg nm = some (.int i t)) : KV K mg nm (.v (.int i)) := ⟨.int i, _, h, ⟨t, rfl⟩, fun _ _ => .v .nil⟩
theorem kv_str {nm : Str} {z : Str} {t : Tok} (h : mg nm = some (.str z t)) : KV K mg nm (.v (.str z)) := ⟨.str z, _, h, ⟨t, rfl⟩, fun _ _ => .v .nil⟩
/-! ### and, or, not, if as values -/
def mAndV (a b : ME) : ME := fun ds => match a ds with
  | some (.v (.bl true), ds1) => b ds1
  | some (.v (.bl false), ds1) => some (.v (.bl false), ds1)
  | _ => none
def mOrV (a b : ME) : ME := fun ds => match a ds with
  | some (.v (.bl true), ds1) => some (.v (.bl true), ds1)
  | some (.v (.bl false), ds1) => b ds1
  | _ => none
def mNotV (a : ME) : ME := fun ds => match a ds with
  | some (.v (.bl b), ds1) => some (.v (.bl (!b)), ds1)
  | _ => none
def mIfE (t : MT) (a b : ME) : ME := fun ds => match t ds with
  | some (true, ds1) => a ds1
  | some (false, ds1) => b ds1
  | none => none
theorem tm_andV {A B : ME} (h : tm K mg (mAndV A B) σ H Q) : tAndV (tm K mg A) (tm K mg B) σ H Q := by
  obtain ⟨G, ds, f, d, ds', gh, o, n, e, k⟩ := h
  unfold mAndV at e
  split at e
  · rename_i ds1 e1
    refine ⟨G, ds, f, _, ds1, gh, o, n, e1, fun v G1 H1 p1 => ?_⟩
    obtain ⟨f1, f2, x1, o1, q1, n1⟩ := p1
    obtain ⟨rfl, rfl⟩ := q1.v_inv
    refine ⟨true, rfl, ?_⟩
    show tm K mg B σ H1 Q
    exact ⟨G1, ds1, f1, d, ds', x1.gh, o1, (List.nodup_append.mp n1).1, e, fun v G2 H2 p2 => k v G2 H2 (Pst.nil_trans x1 p2)⟩
  · rename_i ds1 e1
    cases e
    refine ⟨G, ds, f, _, _, gh, o, n, e1, fun v G1 H1 p1 => ?_⟩
    have p1' := p1
    obtain ⟨f1, f2, x1, o1, q1, n1⟩ := p1
    obtain ⟨rfl, rfl⟩ := q1.v_inv
    exact ⟨false, rfl, k _ G1 H1 p1'⟩
  · cases e
theorem tm_orV {A B : ME} (h : tm K mg (mOrV A B) σ H Q) : tOrV (tm K mg A) (tm K mg B) σ H Q := by
  obtain ⟨G, ds, f, d, ds', gh, o, n, e, k⟩ := h
  unfold mOrV at e
  split at e
  · rename_i ds1 e1
    cases e
    refine ⟨G, ds, f, _, _, gh, o, n, e1, fun v G1 H1 p1 => ?_⟩
    have p1' := p1
    obtain ⟨f1, f2, x1, o1, q1, n1⟩ := p1
    obtain ⟨rfl, rfl⟩ := q1.v_inv
    exact ⟨true, rfl, k _ G1 H1 p1'⟩
  · rename_i ds1 e1
    refine ⟨G, ds, f, _, ds1, gh, o, n, e1, fun v G1 H1 p1 => ?_⟩
    obtain ⟨f1, f2, x1, o1, q1, n1⟩ := p1
    obtain ⟨rfl, rfl⟩ := q1.v_inv
    refine ⟨false, rfl, ?_⟩
    show tm K mg B σ H1 Q
    exact ⟨G1, ds1, f1, d, ds', x1.gh, o1, (List.nodup_append.mp n1).1, e, fun v G2 H2 p2 => k v G2 H2 (Pst.nil_trans x1 p2)⟩
  · cases e
theorem tm_notV {A : ME} (h : tm K mg (mNotV A) σ H Q) : tNotV (tm K mg A) σ H Q := by
  obtain ⟨G, ds, f, d, ds', gh, o, n, e, k⟩ := h
  unfold mNotV at e
  split at e
  · rename_i b ds1 e1
    cases e
    refine ⟨G, ds, f, _, _, gh, o, n, e1, fun v G1 H1 p1 => ?_⟩
    obtain ⟨f1, f2, x1, o1, q1, n1⟩ := p1
    obtain ⟨rfl, rfl⟩ := q1.v_inv
    exact ⟨b, rfl, k _ G1 H1 ⟨f1, [], x1, o1, .v .nil, n1⟩⟩
  · cases e
theorem tm_ifE {t : MT} {A B : ME} (h : tm K mg (mIfE t A B) σ H Q) : tIf (tt K mg t) (tm K mg A) (tm K mg B) σ H Q := by
  obtain ⟨G, ds, f, d, ds', gh, o, n, e, k⟩ := h
  unfold mIfE at e
  split at e
  · rename_i ds1 e1
    refine ⟨G, ds, f, true, ds1, gh, o, n, e1, fun G1 H1 p1 => ?_⟩
    obtain ⟨f1, f2, x1, o1, q1, n1⟩ := p1
    cases q1
    show tm K mg A σ H1 Q
    exact ⟨G1, ds1, f1, d, ds', x1.gh, o1, (List.nodup_append.mp n1).1, e, fun v G2 H2 p2 => k v G2 H2 (Pst.nil_trans x1 p2)⟩
  · rename_i ds1 e1
    refine ⟨G, ds, f, false, ds1, gh, o, n, e1, fun G1 H1 p1 => ?_⟩
    obtain ⟨f1, f2, x1, o1, q1, n1⟩ := p1
    cases q1
    show tm K mg B σ H1 Q
    exact ⟨G1, ds1, f1, d, ds', x1.gh, o1, (List.nodup_append.mp n1).1, e, fun v G2 H2 p2 => k v G2 H2 (Pst.nil_trans x1 p2)⟩
  · cases e
variable {a b c : Expr} {rest : List Expr} {pos : Pos} {ma mb : ME} {t : MT}
theorem xe_one {op} (h : XE X a ma) : XE X (.BoolOp op [a] pos) ma := pe_one h
theorem xe_and (ha : XE X a ma) (hb : XE X (.BoolOp .And (b :: rest) pos) mb) : XE X (.BoolOp .And (a :: b :: rest) pos) (mAndV ma mb) := PE.mono (pe_and ha hb) fun _ _ _ h => tm_andV h
theorem xe_or (ha : XE X a ma) (hb : XE X (.BoolOp .Or (b :: rest) pos) mb) : XE X (.BoolOp .Or (a :: b :: rest) pos) (mOrV ma mb) := PE.mono (pe_or ha hb) fun _ _ _ h => tm_orV h
theorem xe_not (ha : XE X a ma) : XE X (.UnaryOp .Not a pos) (mNotV ma) := PE.mono (pe_not ha) fun _ _ _ h => tm_notV h
theorem xe_ifE (hc : XT X c t) (ha : XE X a ma) (hb : XE X b mb) : XE X (.IfExp c a b pos) (mIfE t ma mb) := PE.mono (pe_ifExp hc ha hb) fun _ _ _ h => tm_ifE h
/-! ### in, not in -/
def flatD : D → Option V
  | .v x => if flatV x then some x else none
  | _ => none
def flatsD : List D → Option (List V)
  | [] => some []
  | d :: ds => match flatD d, flatsD ds with
    | some x, some xs => some (x :: xs)
    | _, _ => none
def dInB (d e : D) : Option Bool := match e with
  | .lst _ es => match flatD d, flatsD es with
    | some x, some xs => some (inV x xs)
    | _, _ => match py d, pys es with
      | some p, some ps => if SeqAt.shaped p && SeqAt.shaped (.list ps) then some (ps.any fun z => PyData.eqv z p) else none
      | _, _ => none
  | .tup es => match flatD d, flatsD es with
    | some x, some xs => some (inV x xs)
    | _, _ => none
  | .ktp es => match flatD d, flatsD es with
    | some x, some xs => some (inV x xs)
    | _, _ => none
  | .v (.str z) => match d with
    | .v (.str s) => match s.cps.toList with
      | [ch] => some (decide (ch ∈ z.cps.toList))
      | _ => some (!(Builtin.Str.occurrences z s 0 z.length 1).isEmpty)
    | _ => none
  | _ => none
def dIn (d e : D) : Option D := (dInB d e).map fun b => .v (.bl b)
def dNin (d e : D) : Option D := (dInB d e).map fun b => .v (.bl (!b))
theorem flats_own : ∀ {es : List D} {vs : List V} {f : List Addr} {xs : List V}, Owns K mg G H vs es f → flatsD es = some xs → vs = xs ∧ xs.all flatV = true := by
  intro es
  induction es with
  | nil => intro vs f xs h e; cases e; cases h; exact ⟨rfl, rfl⟩
  | cons d es ih =>
    intro vs f xs h e
    cases vs with
    | nil => cases h
    | cons v vs =>
      obtain ⟨f1, f2, rfl, h1, h2⟩ := h.cons_inv
      rw [flatsD] at e
      cases hd : flatD d with
      | none => rw [hd] at e; cases e
      | some x =>
        cases hq : flatsD es with
        | none => rw [hd, hq] at e; cases e
        | some q =>
          rw [hd, hq] at e; cases e
          obtain ⟨rfl, h3⟩ := ih h2 hq
          cases d with
          | v w =>
            rw [flatD] at hd
            split at hd
            · rename_i hf
              cases hd
              obtain ⟨rfl, rfl⟩ := h1.v_inv
              exact ⟨rfl, by rw [List.all_cons, hf, h3]; rfl⟩
            · cases hd
          | _ => cases hd
theorem flat_own (h : Owns K mg G H [x] [d] f) {w : V} (e : flatD d = some w) : x = w ∧ flatV w = true ∧ f = [] := by
  cases d with
  | v u =>
    rw [flatD] at e
    split at e
    · rename_i hf
      cases e
      obtain ⟨rfl, rfl⟩ := h.v_inv
      exact ⟨rfl, hf, rfl⟩
    · cases e
  | _ => cases e
def rInA (K : PySem.W.Frag) : R2 := fun x y H Q => rIn K false x y H Q ∨ (rInD K x y H Q ∨ ((∃ (c : Nat) (z : Str), x = .str ⟨#[c]⟩ ∧ y = .str z ∧ Q (.bl (decide (c ∈ z.cps.toList))) H) ∨ (∃ i j, x = .str i ∧ y = .str j ∧ Q (.bl (!(Builtin.Str.occurrences j i 0 j.length 1).isEmpty)) H)))
def rNinA (K : PySem.W.Frag) : R2 := fun x y H Q => rIn K true x y H Q ∨ (rNotInD K x y H Q ∨ ((∃ (c : Nat) (z : Str), x = .str ⟨#[c]⟩ ∧ y = .str z ∧ Q (.bl (!decide (c ∈ z.cps.toList))) H) ∨ (∃ i j, x = .str i ∧ y = .str j ∧ Q (.bl (!(!(Builtin.Str.occurrences j i 0 j.length 1).isEmpty))) H)))
theorem str_one {s : Str} {c : Nat} (h : s.cps.toList = [c]) : s = ⟨#[c]⟩ := by
  obtain ⟨a⟩ := s
  congr 1
  apply Array.toList_inj.mp
  simpa using h
/-- both at once: b the answer of `in`, k of what follows -/
theorem in_core {P : R2} {b : Bool} (gh : Same G H) (h1 : Owns K mg G H [x] [d] f1) (h2 : Owns K mg G H [y] [e] f2) (q : dInB d e = some b) :
    (∃ p xs, y = .ref p ∧ (SqL K H p xs ∨ SqT K H p xs) ∧ flatV x = true ∧ xs.all flatV = true ∧ b = inV x xs) ∨
    (∃ dd ds, Dp K H x dd ∧ Dp K H y (.list ds) ∧ SeqAt.shaped dd = true ∧ SeqAt.shaped (.list ds) = true ∧ b = (ds.any fun z => PyData.eqv z dd)) ∨
    (∃ (c : Nat) (z : Str), x = .str ⟨#[c]⟩ ∧ y = .str z ∧ b = decide (c ∈ z.cps.toList)) ∨
    (∃ i j, x = .str i ∧ y = .str j ∧ b = !(Builtin.Str.occurrences j i 0 j.length 1).isEmpty) := by
  unfold dInB at q
  split at q
  · rename_i oo es
    split at q
    · rename_i x0 xs0 e1 e2
      cases q
      obtain ⟨a, xs, f', rfl, hs, w, _, _⟩ := h2.lst_inv gh
      obtain ⟨rfl, hf, _⟩ := flat_own h1 e1
      obtain ⟨rfl, hfs⟩ := flats_own w e2
      exact .inl ⟨a, _, rfl, .inl hs, hf, hfs, rfl⟩
    · split at q
      · rename_i p ps e1 e2
        split at q
        · rename_i c
          cases q
          rw [Bool.and_eq_true] at c
          exact .inr (.inl ⟨p, ps, h1.dp1 gh e1, h2.dp1 gh (by simp [py, e2]), c.1, c.2, rfl⟩)
        · cases q
      · cases q
  · rename_i es
    split at q
    · rename_i x0 xs0 e1 e2
      cases q
      obtain ⟨a, xs, rfl, hs, _, w⟩ := h2.tup_inv gh
      obtain ⟨rfl, hf, _⟩ := flat_own h1 e1
      obtain ⟨rfl, hfs⟩ := flats_own w e2
      exact .inl ⟨a, _, rfl, .inr hs, hf, hfs, rfl⟩
    · cases q
  · rename_i es
    split at q
    · rename_i x0 xs0 e1 e2
      cases q
      obtain ⟨a, xs, rfl, hs, _, w⟩ := h2.ktp_inv gh
      obtain ⟨rfl, hf, _⟩ := flat_own h1 e1
      obtain ⟨rfl, hfs⟩ := flats_own w e2
      exact .inl ⟨a, _, rfl, .inr hs, hf, hfs, rfl⟩
    · cases q
  · split at q
    · obtain ⟨rfl, _⟩ := h1.v_inv
      obtain ⟨rfl, _⟩ := h2.v_inv
      split at q
      · rename_i s ch hc
        cases q
        have := str_one hc
        exact .inr (.inr (.inl ⟨ch, _, by rw [this], rfl, rfl⟩))
      · cases q
        exact .inr (.inr (.inr ⟨_, _, rfl, rfl, rfl⟩))
    · cases q
  · cases q
theorem opd_in : OpD K mg (rInA K) dIn := by
  intro G H x y d e d' f Q gh h n q k
  obtain ⟨f1, f2, rfl, h1, h2⟩ := h.two
  unfold dIn at q
  cases hb : dInB d e with
  | none => rw [hb] at q; cases q
  | some b =>
    rw [hb] at q; cases q
    have kk := k (.bl b) G H (VPst.val gh)
    rcases in_core (P := rInA K) gh h1 h2 hb with ⟨p, xs, a1, a2, a3, a4, rfl⟩ | ⟨dd, dss, a1, a2, a3, a4, rfl⟩ | ⟨c, z, a1, a2, rfl⟩ | ⟨i, j, a1, a2, rfl⟩
    · exact .inl ⟨p, xs, a1, a2, a3, a4, kk⟩
    · exact .inr (.inl ⟨dd, dss, a1, a2, a3, a4, kk⟩)
    · exact .inr (.inr (.inl ⟨c, z, a1, a2, kk⟩))
    · exact .inr (.inr (.inr ⟨i, j, a1, a2, kk⟩))
theorem opd_nin : OpD K mg (rNinA K) dNin := by
  intro G H x y d e d' f Q gh h n q k
  obtain ⟨f1, f2, rfl, h1, h2⟩ := h.two
  unfold dNin at q
  cases hb : dInB d e with
  | none => rw [hb] at q; cases q
  | some b =>
    rw [hb] at q; cases q
    have kk := k (.bl (!b)) G H (VPst.val gh)
    rcases in_core (P := rInA K) gh h1 h2 hb with ⟨p, xs, a1, a2, a3, a4, rfl⟩ | ⟨dd, dss, a1, a2, a3, a4, rfl⟩ | ⟨c, z, a1, a2, rfl⟩ | ⟨i, j, a1, a2, rfl⟩
    · exact .inl ⟨p, xs, a1, a2, a3, a4, kk⟩
    · exact .inr (.inl ⟨dd, dss, a1, a2, a3, a4, kk⟩)
    · exact .inr (.inr (.inl ⟨c, z, a1, a2, kk⟩))
    · exact .inr (.inr (.inr ⟨i, j, a1, a2, kk⟩))
theorem opr_in (hu : X.A.units + 65 < cLine) : OpR X (compareOp .In) (rInA X.K) := op_in_seq.or ((op_inD hu).or (op_in_sign.or op_in_str))
theorem opr_nin (hu : X.A.units + 65 < cLine) : OpR X (compareOp .NotIn) (rNinA X.K) := op_notIn_seq.or ((op_notInD hu).or (op_notIn_sign.or op_notin_str))
theorem xe_in (hu : X.A.units + 65 < cLine) (ha : XE X a ma) (hb : XE X b mb) (hm : behindInMarks .In b = false := by rfl) : XE X (.Compare a [.In] [b] pos) (mOp dIn ma mb) := xe_cmp (opr_in hu) opd_in ha hb hm
theorem xe_nin (hu : X.A.units + 65 < cLine) (ha : XE X a ma) (hb : XE X b mb) (hm : behindInMarks .NotIn b = false := by rfl) : XE X (.Compare a [.NotIn] [b] pos) (mOp dNin ma mb) := xe_cmp (opr_nin hu) opd_nin ha hb hm
theorem xt_in (hu : X.A.units + 65 < cLine) (ha : XE X a ma) (hb : XE X b mb) (hm : behindInMarks .In b = false := by rfl) : XT X (.Compare a [.In] [b] pos) (mTst (mOp dIn ma mb)) := xt_cmp (opr_in hu) opd_in ha hb hm
theorem xt_nin (hu : X.A.units + 65 < cLine) (ha : XE X a ma) (hb : XE X b mb) (hm : behindInMarks .NotIn b = false := by rfl) : XT X (.Compare a [.NotIn] [b] pos) (mTst (mOp dNin ma mb)) := xt_cmp (opr_nin hu) opd_nin ha hb hm
/-! ### slices -/
abbrev MO := DS → Option (Option Int × DS)
def to (K : PySem.W.Frag) (mg : Str → Option Value) (m : MO) : TO := fun σ H Q => ∃ G ds f b ds', Same G H ∧ OwnS K mg G H σ ds f ∧ f.Nodup ∧ m ds = some (b, ds') ∧ ∀ G' H', Pst K mg f G H σ ds' [] [] G' H' → Q b H'
def oNo : MO := fun ds => some (none, ds)
def oYes (m : ME) : MO := fun ds => match m ds with
  | some (.v (.int i), ds1) => some (some i, ds1)
  | _ => none
abbrev XO (X : Cx) (e : Option Expr) (m : MO) : Prop := PO X e (to X.K X.mg m)
theorem PO.mono {e : Option Expr} {t t' : TO} (h : PO X e t) (k : ∀ σ H Q, t' σ H Q → t σ H Q) : PO X e t' := ⟨fun pins s σ H Q I q => h.run pins s σ H Q I (k σ H Q q)⟩
theorem xo_no : XO X none oNo := PO.mono po_none fun σ H Q h => by
  obtain ⟨G, ds, f, b, ds', g, o, n, e, k⟩ := h
  cases e
  exact k G H (Pst.refl g o n)
theorem xo_yes {e : Expr} {m : ME} (h : XE X e m) : XO X (some e) (oYes m) := PO.mono (po_some h) fun σ H Q h => by
  obtain ⟨G, ds, f, b, ds', g, o, n, e, k⟩ := h
  unfold oYes at e
  split at e
  · rename_i i ds1 e1
    cases e
    refine ⟨G, ds, f, _, _, g, o, n, e1, fun v G1 H1 p1 => ?_⟩
    obtain ⟨f1, f2, x1, o1, q1, n1⟩ := p1
    obtain ⟨rfl, rfl⟩ := q1.v_inv
    exact ⟨i, rfl, k G1 H1 ⟨f1, [], x1, o1, .nil, n1⟩⟩
  · cases e
def cutL {α : Type} (xs : List α) (lo hi : Option Int) : List α := (xs.drop (HT.sIx xs.length 0 lo)).take (HT.sIx xs.length xs.length hi - HT.sIx xs.length 0 lo)
def dCut : D → Option Int → Option Int → Option D
  | .lst _ es, lo, hi => if cleans es then some (.lst .own (cutL es lo hi)) else none
  | .tup es, lo, hi => if cleans es then some (.tup (cutL es lo hi)) else none
  | .v (.str z), lo, hi => if z.length ≤ 16777216 then some (.v (.str (cutS z lo hi))) else none
  | _, _, _ => none
def mSl (m : ME) (lo hi : MO) : ME := fun ds => match m ds with
  | some (d, ds1) => if clean d then match lo ds1 with
    | some (l, ds2) => match hi ds2 with
      | some (h, ds3) => match dCut d l h with
        | some d' => some (d', ds3)
        | none => none
      | none => none
    | none => none
    else none
  | none => none
theorem cleans_cut {es : List D} (h : cleans es = true) (lo hi : Option Int) : cleans (cutL es lo hi) = true := by
  have key : ∀ es : List D, cleans es = true ↔ ∀ d ∈ es, clean d = true := by
    intro es
    induction es with
    | nil => simp [cleans]
    | cons d es ih => simp [cleans, ih]
  rw [key] at h ⊢
  intro d hd
  unfold cutL at hd
  exact h d (List.mem_of_mem_drop (List.mem_of_mem_take hd))
theorem Owns.drop_ : ∀ {es : List D} {vs : List V} (n : Nat), Owns K mg G H vs es [] → Owns K mg G H (vs.drop n) (es.drop n) [] := by
  intro es
  induction es with
  | nil => intro vs n h; have := h.length; have : vs = [] := List.eq_nil_of_length_eq_zero this; subst this; simpa using h
  | cons d es ih =>
    intro vs n h
    cases n with
    | zero => simpa using h
    | succ n =>
      cases vs with
      | nil => cases h
      | cons v vs =>
        obtain ⟨f1, f2, hf, h1, h2⟩ := h.cons_inv
        obtain ⟨rfl, rfl⟩ := List.append_eq_nil_iff.mp hf.symm
        simpa using ih n h2
theorem Owns.take_ : ∀ {es : List D} {vs : List V} (n : Nat), Owns K mg G H vs es [] → Owns K mg G H (vs.take n) (es.take n) [] := by
  intro es
  induction es with
  | nil => intro vs n h; have := h.length; have : vs = [] := List.eq_nil_of_length_eq_zero this; subst this; simpa using h
  | cons d es ih =>
    intro vs n h
    cases n with
    | zero => simpa using Owns.nil
    | succ n =>
      cases vs with
      | nil => cases h
      | cons v vs =>
        obtain ⟨f1, f2, hf, h1, h2⟩ := h.cons_inv
        obtain ⟨rfl, rfl⟩ := List.append_eq_nil_iff.mp hf.symm
        simpa using h1.append (ih n h2)
theorem Owns.cut (h : Owns K mg G H vs es []) (lo hi : Option Int) : Owns K mg G H (cutV vs lo hi) (cutL es lo hi) [] := by
  unfold cutV cutL
  rw [h.length]
  exact (h.drop_ _).take_ _
theorem tm_sl {m : ME} {lo hi : MO} (h : tm K mg (mSl m lo hi) σ H Q) : tSl (fun x lo hi H Q => rSlL K x lo hi H Q ∨ (rSlA K x lo hi H Q ∨ rSlS x lo hi H Q)) (tm K mg m) (to K mg lo) (to K mg hi) σ H Q := by
  obtain ⟨G, ds, f, d, ds', gh, o, n, e, k⟩ := h
  unfold mSl at e
  split at e
  · rename_i d0 ds1 e1
    split at e
    · rename_i hcl
      split at e
      · rename_i l ds2 e2
        split at e
        · rename_i hh ds3 e3
          split at e
          · rename_i d1 e4
            cases e
            refine ⟨G, ds, f, d0, ds1, gh, o, n, e1, fun v G1 H1 p1 => ?_⟩
            obtain ⟨f1, f2, x1, o1, q1, n1⟩ := p1
            have := q1.clean (clean_sing hcl)
            subst this
            have x1' : Ext f G H f1 G1 H1 := by simpa using x1
            refine ⟨G1, ds1, f1, l, ds2, x1.gh, o1, (List.nodup_append.mp n1).1, e2, fun G2 H2 p2 => ?_⟩
            obtain ⟨f3, f4, x2, o2, q2, n2⟩ := p2
            cases q2
            have x2' : Ext f1 G1 H1 f3 G2 H2 := by simpa using x2
            refine ⟨G2, ds2, f3, hh, _, x2.gh, o2, (List.nodup_append.mp n2).1, e3, fun G3 H3 p3 => ?_⟩
            obtain ⟨f5, f6, x3, o3, q3, n3⟩ := p3
            cases q3
            have x3' : Ext f3 G2 H2 f5 G3 H3 := by simpa using x3
            have xx : Ext f G H (f5 ++ []) G3 H3 := by simpa using (x1'.trans x2').trans x3'
            have n3' : (f5 ++ ([] : List Addr)).Nodup := n3
            have w : Owns K mg G3 H3 [v] [d0] [] := q1.frame (x2'.gg.trans x3'.gg) (fun _ h => by cases h)
            have fin : ∀ {z : V} {G4 H4 : Hp}, VPst K mg [] G3 H3 [z] [d] G4 H4 → Q z H4 := fun p => k _ _ _ (Pst.map xx o3 n3' p)
            unfold dCut at e4
            split at e4
            · split at e4
              · rename_i oo es c
                cases e4
                obtain ⟨a, xs, f', rfl, hs, w1, s1, _⟩ := w.lst_inv x3.gh
                have : f' = [] := w1.clean c
                subst this
                exact .inl ⟨a, xs, rfl, hs, fun p hp => fin (VPst.newL x3.gh (w1.cut l hh) (by simp) List.nodup_nil hp)⟩
              · cases e4
            · split at e4
              · rename_i es c
                cases e4
                obtain ⟨a, xs, rfl, hs, hs0, w1⟩ := w.tup_inv x3.gh
                refine .inr (.inl ⟨a, xs, rfl, hs, fun hw => ?_, fun hw p hp => fin (VPst.newT x3.gh (w1.cut l hh) (by simp) List.nodup_nil hp)⟩)
                have : cutL es l hh = es := by
                  unfold cutL
                  rw [w1.length] at hw
                  rw [hw.1, hw.2]
                  simp
                rw [this] at fin
                exact fin (VPst.same x3.gh w (by simp) List.nodup_nil)
              · cases e4
            · split at e4
              · rename_i z c
                cases e4
                obtain ⟨rfl, _⟩ := w.v_inv
                exact .inr (.inr ⟨_, rfl, line ▸ c, fin (VPst.val x3.gh)⟩)
              · cases e4
            · cases e4
          · cases e
        · cases e
      · cases e
    · cases e
  · cases e
theorem xe_sl {e : Expr} {lo hi : Option Expr} {p2 : Pos} {m : ME} {ml mh : MO} (he : XE X e m) (hl : XO X lo ml) (hh : XO X hi mh) : XE X (.Subscript e (.Slice lo hi none p2) pos) (mSl m ml mh) :=
  PE.mono (pe_slice (sl_list.or (sl_tupA.or sl_str)) he hl hh) fun _ _ _ h => tm_sl h
/-! negation -/
def mNeg (m : ME) : ME := fun ds => match m ds with
  | some (.v (.int i), ds1) => some (.v (.int (-i)), ds1)
  | _ => none
theorem xe_neg (ha : XE X a ma) : XE X (.UnaryOp .USub a pos) (mNeg ma) := PE.mono (pe_un un_neg ha) fun σ H Q h => by
  obtain ⟨G, ds, f, d, ds', gh, o, n, e, k⟩ := h
  unfold mNeg at e
  split at e
  · rename_i i ds1 e1
    cases e
    refine ⟨G, ds, f, _, _, gh, o, n, e1, fun v G1 H1 p1 => ?_⟩
    obtain ⟨f1, f2, x1, o1, q1, n1⟩ := p1
    obtain ⟨rfl, rfl⟩ := q1.v_inv
    exact ⟨i, rfl, k _ G1 H1 ⟨f1, [], x1, o1, .v .nil, n1⟩⟩
  · cases e
end
/-! ### the law's own end -/
def fxOf (l : List Nat) : Nat → Bool := fun i => l.contains i
def intsD (ns : List Int) : List D := ns.map fun i => .v (.int i)
theorem ints_own {K : PySem.W.Frag} {mg : Str → Option Value} {G H : Hp} : ∀ ns : List Int, Owns K mg G H (ns.map V.int) (intsD ns) []
  | [] => .nil
  | n :: ns => .v (ints_own ns)
theorem law_sp {K : PySem.W.Frag} {mg : Str → Option Value} {F : List D → Option (D × DS)} {a : Addr} {ns : List Int} {H : Hp} {Q : VK} {E : XK} (hS : SqL K H a (ns.map V.int)) (hF : ∃ os, F [.lst .ext (intsD ns)] = some (.v (.bl true), os)) (k : ∀ H', Q (.bl true) H') : spF K mg 1 F [.ref a] H Q E := by
  obtain ⟨os, hF⟩ := hF
  refine ⟨rfl, H, [.lst .ext (intsD ns)], [], _, os, Same.refl H, .el (f1 := []) (f2 := []) hS (ints_own ns) .nil, List.nodup_nil, hF, fun v G' H' p => ?_⟩
  obtain ⟨f1, f2, x1, o1, q1, n1⟩ := p
  obtain ⟨rfl, _⟩ := q1.v_inv
  exact k H'
end Z
namespace Z
open PySem PySem.Spec L2
theorem hu65 {A : Around} {k : Nat} (hr : Room k A) : A.units + 65 < cLine := by have := hr.un; omega
section
variable {K : PySem.W.Frag} {mg : Str → Option Value} {f f1 f2 : List Addr} {G H G1 H1 G2 H2 : Hp} {σ : L2.St} {ds ds1 ds2 : DS} {vs ws : List V} {es es2 : List D} {x y : V} {d e : D} {X : Cx} {Q : VK} {fx : Nat → Bool} {E : Ends}
def mRetN : MS := fun ds => some (.rt (.v .non) ds)
theorem xs_retN {pos : Pos} : XS X fx (.Return none pos) mRetN := PS.mono ps_retN fun E σ H h => by
  obtain ⟨G, ds, f, out, g, o, n, e, k⟩ := h
  cases e
  exact k σ (FixS.refl _ _) .non G H (Pst.map (f1 := f) (f2 := []) (by simpa using Ext.refl g f) o (by simpa using n) (VPst.val g))
/-! a target of several names -/
def mAsgT (a : MG) (m : ME) : MS := fun ds => match m ds with
  | some (d, ds1) => if clean d then match a d ds1 with
    | some ds2 => some (.nx ds2)
    | none => none
    else none
  | none => none
theorem ts_asgT {a : MG} {m : ME} (h : ts K mg fx (mAsgT a m) E σ H) : tAsg (tm K mg m) (tg K mg fx a) E σ H := by
  obtain ⟨G, ds, f, out, g, o, n, e, k⟩ := h
  unfold mAsgT at e
  split at e
  · rename_i d ds1 e1
    split at e
    · rename_i c
      split at e
      · rename_i ds2 e2
        cases e
        refine ⟨G, ds, f, d, ds1, g, o, n, e1, fun v G1 H1 p1 => ?_⟩
        obtain ⟨f1, f2, x1, o1, q1, n1⟩ := p1
        have := q1.clean (clean_sing c)
        subst this
        exact ⟨G1, ds1, f1, d, ds2, x1.gh, o1, (List.nodup_append.mp n1).1, q1, e2, fun σ' G' H' hx p => k σ' hx G' H' (Pst.nil_trans x1 p)⟩
      · cases e
    · cases e
  · cases e
theorem xs_asg {tge e : Expr} {a : MG} {m : ME} {pos : Pos} (he : XE X e m) (hg : XG X fx tge a) (hs : swapsWithSole [tge] e pos.line X.env = pure false := by rfl) (hw : swappedStores [tge] e X.env = pure none := by rfl) (h1 : (assignEach [tge] X.env).map (·.2) = [assign tge X.env] := by rfl) : XS X fx (.Assign [tge] e pos) (mAsgT a m) :=
  PS.mono (ps_asg he hg hs hw h1) fun _ _ _ h => ts_asgT h
/-! a, b = e1, e2 -/
def mPar (i j : Nat) (m : MA) : MS := fun ds => match m ds with
  | some ([d, e], ds1) => match setSlot i d ds1 with
    | some ds2 => match setSlot j e ds2 with
      | some ds3 => some (.nx ds3)
      | none => none
    | none => none
  | _ => none
/-! sum -/
def dSumL : List D → Option Int
  | [] => some 0
  | .v (.int i) :: r => match dSumL r with
    | some s => some (i + s)
    | none => none
  | _ => none
def dSum : List D → Option D
  | [.lst _ es] => match dSumL es with
    | some s => some (.v (.int s))
    | none => none
  | _ => none
theorem sumL_own : ∀ {es : List D} {vs : List V} {f : List Addr} {s : Int}, Owns K mg G H vs es f → dSumL es = some s → ∃ ns : List Int, vs = ns.map V.int ∧ ns.sum = s := by
  intro es
  induction es with
  | nil =>
    intro vs f s h e
    cases e
    have := h.length
    have : vs = [] := List.eq_nil_of_length_eq_zero this
    subst this
    exact ⟨[], rfl, rfl⟩
  | cons d es ih =>
    intro vs f s h e
    cases vs with
    | nil => cases h
    | cons v vs =>
      obtain ⟨f1, f2, rfl, h1, h2⟩ := h.cons_inv
      unfold dSumL at e
      split at e
      · rename_i hh; cases hh
      · rename_i i r hh
        cases hh
        split at e
        · rename_i s' e'
          cases e
          obtain ⟨ns, rfl, rfl⟩ := ih h2 e'
          obtain ⟨rfl, rfl⟩ := h1.v_inv
          exact ⟨i :: ns, rfl, by simp⟩
        · cases e
      · cases e
theorem calld_sum : CallD K mg (rSum K) dSum := by
  intro G H xs es d' f Q gh h n e k
  unfold dSum at e
  split at e
  · split at e
    · rename_i s es1
      cases e
      cases xs with
      | nil => cases h
      | cons x xs =>
        obtain ⟨f1, f2, rfl, h1, h2⟩ := h.cons_inv
        cases h2
        obtain ⟨a, ys, f', rfl, e1, w, _, _⟩ := h1.lst_inv gh
        obtain ⟨ns, rfl, rfl⟩ := sumL_own w es1
        exact ⟨a, ns, rfl, e1, k _ G H (VPst.val gh)⟩
    · cases e
  · cases e
/-! x.append(e): of the own list at slot i -/
def mAppend (i : Nat) (me : ME) : MS := fun ds => match ds[i]? with
  | some (some (.lst _ _)) => match me ds with
    | some (d, ds1) => match ds1[i]? with
      | some (some (.lst .own es)) => if es.length < 10000000 then some (.nx (ds1.set i (some (.lst .own (es ++ [d]))))) else none
      | _ => none
    | none => none
  | _ => none
theorem ts_append {i : Nat} {me : ME} (h : ts K mg fx (mAppend i me) E σ H) : tDrop (tBM K "list" rAppend (tVar i) (tCons (tm K mg me) tNil)) E σ H := by
  obtain ⟨G, ds, f, out, gh, o, n, e, k⟩ := h
  unfold mAppend at e
  split at e
  · rename_i oo es0 h0
    obtain ⟨v, _, _, _, rfl, hv, ho0, _⟩ := o.split h0
    obtain ⟨a0, xs0, _, rfl, eH0, _, _, _⟩ := ho0.lst_inv gh
    split at e
    · rename_i d ds1 e1
      split at e
      · rename_i es h2
        split at e
        · rename_i hsz
          cases e
          refine ⟨_, hv, .inl ⟨rfl, xs0, eH0⟩, G, ds, _, d, ds1, gh, o, n, e1, fun y G2 H2 p2 => ?_⟩
          obtain ⟨g1, g2, x2, o2, q2, n2⟩ := p2
          obtain ⟨v', fa, fb, fc, rfl, hv', ho, kk2⟩ := o2.split h2
          rw [hv] at hv'; cases hv'
          obtain ⟨a, xs, f', hva, eH, eG, w, rfl⟩ := ho.own_inv
          cases hva
          have hd : ∀ p, p ∈ fa ∨ p ∈ fc ∨ p ∈ f' ∨ p ∈ g2 → p ≠ a0 := by
            intro p hp z
            subst z
            simp only [List.nodup_append, List.mem_append, List.nodup_cons, List.mem_cons] at n2
            rcases hp with hp | hp | hp | hp
            · exact n2.1.1.2.2 p hp p (.inl rfl) rfl
            · exact n2.1.2.2 p (.inr (.inl rfl)) p hp rfl
            · exact n2.1.1.2.1.1 hp
            · exact n2.2.2 p (.inl (.inr (.inl rfl))) p hp rfl
          have hk : ∀ p, p ≠ a0 → ∀ u, H2 p = some u → upd H2 a0 (.lst (xs ++ [y])) p = some u := fun p hp u e => by rw [upd_ne hp]; exact e
          have w4 : Owns K mg G2 (upd H2 a0 (.lst (xs ++ [y]))) (xs ++ [y]) (es ++ [d]) (f' ++ g2) := (w.append q2).frame (Same.refl G2) fun p hp => ⟨hk p (hd p (by rcases List.mem_append.mp hp with h | h <;> simp [h])), ((w.append q2).here p hp).2⟩
          have hgh : Same G2 (upd H2 a0 (.lst (xs ++ [y]))) := fun p u e => hk p (fun z => by subst z; rw [eG] at e; cases e) u (x2.gh p u e)
          obtain ⟨_, k2⟩ := kk2 G2 (upd H2 a0 (.lst (xs ++ [y]))) (Same.refl G2) fun p hp => ⟨hk p (hd p (by rcases hp with h | h <;> simp [h])), (o2.here p (by rcases hp with h | h <;> simp [h])).2⟩
          have o5 := k2 _ _ (Owns.ol upd_same eG w4 .nil)
          refine ⟨a0, xs, y, rfl, rfl, eH, by rw [w.length, sizeLine_eq]; omega, k σ (FixS.refl _ _) G2 _ ⟨_, [], ?_, o5, .nil, ?_⟩⟩
          · refine ⟨hgh, x2.gg, fun p u e hp => ?_, fun p hp => ?_, x2.gn⟩
            · refine hk p (fun z => ?_) u (x2.keep p u e hp)
              subst z
              rcases x2.fpn p (by simp) with h | h
              · exact hp h
              · rw [h] at e; cases e
            · refine x2.fpn p ?_
              simp only [List.mem_append, List.mem_cons, List.append_nil] at hp ⊢
              rcases hp with (h | h | h | h) | h <;> simp [h]
          · simp only [List.nodup_append, List.mem_append, List.nodup_cons, List.mem_cons, List.append_nil] at n2 ⊢
            refine ⟨⟨n2.1.1.1, ⟨fun h => hd a0 (by rcases h with h | h <;> simp [h]) rfl, n2.1.1.2.1.2, n2.2.1, fun p hp q hq z => n2.2.2 p (.inl (.inr (.inr hp))) q hq z⟩, fun p hp q hq z => ?_⟩, n2.1.2.1, fun p hp q hq z => ?_⟩
            · rcases hq with hq | hq | hq
              · exact hd p (.inl hp) (z.trans hq)
              · exact n2.1.1.2.2 p hp q (.inr hq) z
              · exact n2.2.2 p (.inl (.inl hp)) q hq z
            · rcases hp with hp | hp | hp | hp
              · exact n2.1.2.2 p (.inl hp) q hq z
              · exact hd q (.inr (.inl hq)) (z.symm.trans hp)
              · exact n2.1.2.2 p (.inr (.inr hp)) q hq z
              · exact n2.2.2 q (.inr hq) p hp z.symm
        · cases e
      · cases e
    · cases e
  · cases e
theorem xs_append (i : Nat) {nm : Str} {p apos cpos pos : Pos} {e : Expr} {me : ME} (he : XE X e me) (hN : X.N[i]? = some nm := by rfl) (hv : Vis X.env.scope nm := by first | exact Or.inl rfl | exact Or.inr (Or.inl rfl) | exact Or.inr (Or.inr rfl)) (hd : (nm == ("__debug__" : Str)) = false := by decide) (hcd : (nm == ("__classdict__" : Str)) = false := by decide)
    (hse : starEach [e] X.env = (false, eval e X.env) :: starEach [] X.env := by rfl)
    (hbase : attributeBase (.Name nm p) "append" X.env (eval (.Name nm p) X.env) = eval (.Name nm p) X.env := by rfl) (hfew : ((backTo cpos (starEach [e] X.env)).all (fun x => !x.1) && (backToKw cpos (keywordEach [] X.env)).all (fun x => x.1.isSome) && decide (([e] : List Expr).length + ([] : List Keyword).length + (if ([] : List Keyword).isEmpty then 0 else 1) < 30)) = true := by rfl) (hline : (apos.endLine == cpos.line) = true := by rfl) (hplain : (backTo cpos (starEach [] X.env)).any (·.1) = false := by rfl)
    (hsw : swapsWith (.Call (.Attribute (.Name nm p) "append" apos) [e] [] cpos) none pos.line X.env = pure false := by rfl) : XS X fx (.Expr (.Call (.Attribute (.Name nm p) "append" apos) [e] [] cpos) pos) (mAppend i me) :=
  PS.mono (ps_expr (pe_bm PySem.F.plainAttrs_list PySem.F.slot_list_append PySem.F.type_list_append mt_append (pe_var hN hv hd hcd) (pa_cons he pa_nil hse) hbase hfew hline hse hplain) hsw) fun _ _ _ h => ts_append h
end
end Z
namespace Z
open PySem PySem.Spec L2
theorem ok_def' {P : Program} {w : World} {K : PySem.W.Frag} {mg : Str → Option Value} {base : Heap} {x qual : Str} {st : Stmt} {f : Addr} {fd : FuncData} {N ps : List Str} {k np n : Nat} {fx : Nat → Bool} {m : MS} {F' : List D → Option (D × DS)} (hF : F' = fnM np n fx m) (hp : ps.length = np) (hn : N.length = n) (F : Fun K x qual st f fd) (S : FnScope N ps (defScope st))
    (hb : ∀ (cdv : Value) (A : Around) (outer : List Env) (s : Shared) (H : Hp) (E : XK), Room k (A.deeper (PyProof.Rows.envOfC qual (defScope st) s.heap.objs.size f cdv)) → XB (cxOf CX0 P w K mg base N qual (defScope st) f cdv A outer s H E).nox fx (defBody st) m) :
    FnOk P w K mg base CX0 (k + 1) f fd ps (spF K mg np F') := by
  subst hF; subst hp; subst hn
  exact ok_def F S hb
end Z
namespace Z
open PySem PySem.Spec L2
section
variable {K : PySem.W.Frag} {mg : Str → Option Value}
theorem kv_tup {nm : Str} {a : Addr} {od : Option Addr} {its : List Value} {n : Nat} {sl : Array (Option Value)} {xs : List V} {ds : List D} (hm : mg nm = some (.ref a)) (l : K.lookup a = some ⟨.type "tuple", od, .seq its.toArray n, sl⟩) (hs : its.length ≤ 16777216) (hv : Vals xs its) (ho : ∀ G H, Owns K mg G H xs ds []) : KV K mg nm (.ktp ds) :=
  ⟨.ref a, _, hm, rfl, fun G H => by
    have := Owns.kt (K := K) (mg := mg) (G := G) (H := H) (a := a) (f1 := []) (f2 := []) (.inr ⟨_, its.toArray, n, l, rfl, rfl, by simpa using line ▸ hs, by simpa using hv⟩) (ho G H) .nil
    exact this⟩
theorem kv_lst {nm : Str} {a : Addr} {its : List Value} {n : Nat} {sl : Array (Option Value)} {xs : List V} {ds : List D} (hm : mg nm = some (.ref a)) (l : K.lookup a = some ⟨.type "list", none, .seq its.toArray n, sl⟩) (hs : its.length ≤ 16777216) (hv : Vals xs its) (ho : ∀ G H, Owns K mg G H xs ds []) : KV K mg nm (.lst .ext ds) :=
  ⟨.ref a, _, hm, rfl, fun G H => by
    have := Owns.el (K := K) (mg := mg) (G := G) (H := H) (a := a) (f1 := []) (f2 := []) (.inr ⟨_, its.toArray, n, l, rfl, rfl, rfl, by simpa using line ▸ hs, by simpa using hv⟩) (ho G H) .nil
    exact this⟩
end
end Z
namespace Z
open PySem PySem.Spec L2
def spLaw (K : PySem.W.Frag) : Sp := fun vs H Q _ => ∃ (a : Addr) (ns : List Int), vs = [.ref a] ∧ SqL K H a (ns.map V.int) ∧ ns.length ≤ 63 ∧ ∀ H', Q (.bl true) H'
theorem law_fn {P : Program} {w : World} {K : PySem.W.Frag} {mg : Str → Option Value} {base : Heap} {CX : CXT} {k : Nat} {f : Addr} {fd : FuncData} {ps : List Str} {F : List D → Option (D × DS)} (h : FnOk P w K mg base CX k f fd ps (spF K mg 1 F)) (t : ∀ ns : List Int, ns.length ≤ 63 → ∃ os, F [.lst .ext (intsD ns)] = some (.v (.bl true), os)) : FnOk P w K mg base CX k f fd ps (spLaw K) :=
  h.imp fun vs H Q E ⟨a, ns, e, hS, hl, q⟩ => by subst e; exact law_sp hS (t ns hl) q
end Z
namespace Z
open PySem PySem.Spec L2
section
variable {K : PySem.W.Frag} {mg : Str → Option Value} {f f1 f2 g1 g2 : List Addr} {G H G1 H1 G2 H2 : Hp} {σ : L2.St} {ds ds1 ds2 : DS} {vs ws : List V} {es es2 : List D} {x y : V} {d e : D} {X : Cx} {Q : VK} {fx : Nat → Bool} {E : Ends}
/-! ### built-ins on numbers -/
def dMin2 : List D → Option D
  | [.v (.int i), .v (.int j)] => some (.v (.int (if j < i then j else i)))
  | _ => none
def dMax2 : List D → Option D
  | [.v (.int i), .v (.int j)] => some (.v (.int (if j > i then j else i)))
  | _ => none
def dAbs : List D → Option D
  | [.v (.int i)] => some (.v (.int (if i < 0 then -i else i)))
  | _ => none
def dIntF : List D → Option D
  | [.v (.int i)] => some (.v (.int i))
  | [.v (.bl k)] => some (.v (.int (if k then 1 else 0)))
  | [.v (.str a)] => match PySem.intText? a with
    | some n => if a.length ≤ 640 then some (.v (.int n)) else none
    | none => none
  | _ => none
def dStrF : List D → Option D
  | [.v (.int i)] => if i.natAbs.log2 < 1920 then some (.v (.str (toString i))) else none
  | _ => none
theorem calld_min2 : CallD K mg (fun xs H Q => ∃ i j, xs = [.int i, .int j] ∧ Q (.int (if j < i then j else i)) H) dMin2 := by
  intro G H xs es d' f Q gh h n e k
  unfold dMin2 at e
  split at e
  · cases e; obtain ⟨rfl, rfl⟩ := vals2 h; exact ⟨_, _, rfl, k _ G H (VPst.val gh)⟩
  · cases e
theorem calld_max2 : CallD K mg (fun xs H Q => ∃ i j, xs = [.int i, .int j] ∧ Q (.int (if j > i then j else i)) H) dMax2 := by
  intro G H xs es d' f Q gh h n e k
  unfold dMax2 at e
  split at e
  · cases e; obtain ⟨rfl, rfl⟩ := vals2 h; exact ⟨_, _, rfl, k _ G H (VPst.val gh)⟩
  · cases e
theorem calld_abs : CallD K mg (fun xs H Q => ∃ i, xs = [.int i] ∧ Q (.int (if i < 0 then -i else i)) H) dAbs := by
  intro G H xs es d' f Q gh h n e k
  unfold dAbs at e
  split at e
  · cases e; obtain ⟨rfl, rfl⟩ := vals1 h; exact ⟨_, rfl, k _ G H (VPst.val gh)⟩
  · cases e
theorem calld_intF : CallD K mg (fun xs H Q => ((∃ i, xs = [.int i] ∧ Q (.int i) H) ∨ ∃ k, xs = [.bl k] ∧ Q (.int (if k then 1 else 0)) H) ∨ ∃ a n, xs = [.str a] ∧ PySem.intText? a = some n ∧ a.length ≤ 640 ∧ Q (.int n) H) dIntF := by
  intro G H xs es d' f Q gh h n e k
  unfold dIntF at e
  split at e
  · cases e; obtain ⟨rfl, rfl⟩ := vals1 h; exact .inl (.inl ⟨_, rfl, k _ G H (VPst.val gh)⟩)
  · cases e; obtain ⟨rfl, rfl⟩ := vals1 h; exact .inl (.inr ⟨_, rfl, k _ G H (VPst.val gh)⟩)
  · split at e
    · rename_i m hm
      split at e
      · rename_i hl
        cases e; obtain ⟨rfl, rfl⟩ := vals1 h; exact .inr ⟨_, m, rfl, hm, hl, k _ G H (VPst.val gh)⟩
      · cases e
    · cases e
  · cases e
theorem callr_intF : CallR X (.type "int") (fun xs H Q => ((∃ i, xs = [.int i] ∧ Q (.int i) H) ∨ ∃ k, xs = [.bl k] ∧ Q (.int (if k then 1 else 0)) H) ∨ ∃ a n, xs = [.str a] ∧ PySem.intText? a = some n ∧ a.length ≤ 640 ∧ Q (.int n) H) := call_int1.or call_int_str
theorem calld_strF : CallD K mg (fun xs H Q => ∃ i : Int, xs = [.int i] ∧ i.natAbs.log2 < 1920 ∧ Q (.str (toString i)) H) dStrF := by
  intro G H xs es d' f Q gh h n e k
  unfold dStrF at e
  split at e
  · split at e
    · rename_i c
      cases e; obtain ⟨rfl, rfl⟩ := vals1 h; exact ⟨_, rfl, c, k _ G H (VPst.val gh)⟩
    · cases e
  · cases e
/-! all, any of a list of truths -/
def dBools : List D → Option (List Bool)
  | [] => some []
  | .v (.bl b) :: r => match dBools r with
    | some s => some (b :: s)
    | none => none
  | _ => none
def dAll : List D → Option D
  | [.lst _ es] => match dBools es with
    | some s => some (.v (.bl (s.all id)))
    | none => none
  | _ => none
theorem bools_own : ∀ {es : List D} {vs : List V} {f : List Addr} {s : List Bool}, Owns K mg G H vs es f → dBools es = some s → vs = s.map V.bl := by
  intro es
  induction es with
  | nil =>
    intro vs f s h e
    cases e
    have := h.length
    have : vs = [] := List.eq_nil_of_length_eq_zero this
    subst this
    rfl
  | cons d es ih =>
    intro vs f s h e
    cases vs with
    | nil => cases h
    | cons v vs =>
      obtain ⟨f1, f2, rfl, h1, h2⟩ := h.cons_inv
      unfold dBools at e
      split at e
      · rename_i hh; cases hh
      · rename_i i r hh
        cases hh
        split at e
        · rename_i s' e'
          cases e
          have := ih h2 e'
          subst this
          obtain ⟨rfl, rfl⟩ := h1.v_inv
          rfl
        · cases e
      · cases e
theorem calld_all : CallD K mg (rAll K) dAll := by
  intro G H xs es d' f Q gh h n e k
  unfold dAll at e
  split at e
  · split at e
    · rename_i s es1
      cases e
      cases xs with
      | nil => cases h
      | cons x xs =>
        obtain ⟨f1, f2, rfl, h1, h2⟩ := h.cons_inv
        cases h2
        obtain ⟨a, ys, f', rfl, e1, w, _, _⟩ := h1.lst_inv gh
        have := bools_own w es1
        subst this
        exact ⟨a, s, rfl, e1, k _ G H (VPst.val gh)⟩
    · cases e
  · cases e
/-! ### is None -/
def isN : D → Bool
  | .v .non => true
  | _ => false
theorem isN_own (h : Owns K mg G H [x] [d] f) : decide (x = .non) = isN d := by
  cases d with
  | v w => obtain ⟨rfl, rfl⟩ := h.v_inv; cases x <;> rfl
  | _ => cases h <;> rfl
def mIsN (b : Bool) (m : ME) : ME := fun ds => match m ds with
  | some (d, ds1) => some (.v (.bl (if b then isN d else !isN d)), ds1)
  | none => none
/-- a name: it stays as it is -/
def mIsNV (b : Bool) (i : Nat) : ME := fun ds => match ds[i]? with
  | some (some d) => some (.v (.bl (if b then isN d else !isN d)), ds)
  | _ => none
theorem Pst.toV (p : Pst K mg f G H σ ds vs es G1 H1) (x : V) : Pst K mg f G H σ ds [x] [.v x] G1 H1 := by
  obtain ⟨f1, f2, x1, o1, q1, n1⟩ := p
  exact ⟨f1, [], x1.less (by simp; intro p h; exact .inl h), o1, .v .nil, by simpa using (List.nodup_append.mp n1).1⟩
theorem tm_isN {b : Bool} {m : ME} {r : R2} (hr : ∀ x H (Q : VK), Q (.bl (if b then decide (x = V.non) else !decide (x = V.non))) H → r x .non H Q) (h : tm K mg (mIsN b m) σ H Q) : tOp r (tm K mg m) (tC .non) σ H Q := by
  obtain ⟨G, ds, f, d, ds', gh, o, n, e, k⟩ := h
  unfold mIsN at e
  split at e
  · rename_i d1 ds1 e1
    cases e
    refine ⟨G, ds, f, _, _, gh, o, n, e1, fun v G1 H1 p1 => ?_⟩
    have e2 : decide (v = V.non) = isN d1 := by obtain ⟨f1, f2, x1, o1, q1, n1⟩ := p1; exact isN_own q1
    refine hr v H1 Q ?_
    rw [e2]
    exact k _ G1 H1 (p1.toV _)
  · cases e
theorem tm_isNV {b : Bool} {i : Nat} {r : R2} (hr : ∀ x H (Q : VK), Q (.bl (if b then decide (x = V.non) else !decide (x = V.non))) H → r x .non H Q) (h : tm K mg (mIsNV b i) σ H Q) : tOp r (tVar i) (tC .non) σ H Q := by
  obtain ⟨G, ds, f, d, ds', gh, o, n, e, k⟩ := h
  unfold mIsNV at e
  split at e
  · rename_i d1 hi
    cases e
    obtain ⟨v, _, _, _, _, hv, ho, _⟩ := o.split hi
    refine ⟨v, hv, hr v H Q ?_⟩
    rw [isN_own ho]
    exact k _ G H ((Pst.refl gh o n).toV _)
  · cases e
variable {a b c : Expr} {rest : List Expr} {pos : Pos} {ma mb mc : ME}
theorem xe_isN {j p} (ha : XE X a ma) : XE X (.Compare a [.Is] [.Constant .none j p] pos) (mIsN true ma) := PE.mono (pe_cmpR op_isN ha pe_non (nomark _)) fun _ _ _ h => tm_isN (b := true) (fun x H Q q => ⟨rfl, q⟩) h
theorem xe_notN {j p} (ha : XE X a ma) : XE X (.Compare a [.IsNot] [.Constant .none j p] pos) (mIsN false ma) := PE.mono (pe_cmpR op_notN ha pe_non (nomark _)) fun _ _ _ h => tm_isN (b := false) (fun x H Q q => ⟨rfl, q⟩) h
theorem xt_isN {j p} (ha : XE X a ma) : XT X (.Compare a [.Is] [.Constant .none j p] pos) (mTst (mIsN true ma)) := PT.mono (pt_cmpR op_isN ha pe_non (nomark _)) fun _ _ _ h => tt_tst (fun _ q => tm_isN (b := true) (fun x H Q q => ⟨rfl, q⟩) q) h
theorem xt_notN {j p} (ha : XE X a ma) : XT X (.Compare a [.IsNot] [.Constant .none j p] pos) (mTst (mIsN false ma)) := PT.mono (pt_cmpR op_notN ha pe_non (nomark _)) fun _ _ _ h => tt_tst (fun _ q => tm_isN (b := false) (fun x H Q q => ⟨rfl, q⟩) q) h
theorem xe_isNV (i : Nat) {nm : Str} {q p : Pos} {j} (hN : X.N[i]? = some nm := by rfl) (hv : Vis X.env.scope nm := by first | exact Or.inl rfl | exact Or.inr (Or.inl rfl) | exact Or.inr (Or.inr rfl)) (hd : (nm == ("__debug__" : Str)) = false := by decide) (hcd : (nm == ("__classdict__" : Str)) = false := by decide) : XE X (.Compare (.Name nm q) [.Is] [.Constant .none j p] pos) (mIsNV true i) := PE.mono (pe_cmpR op_isN (pe_var hN hv hd hcd) pe_non (nomark _)) fun _ _ _ h => tm_isNV (b := true) (fun x H Q q => ⟨rfl, q⟩) h
theorem xe_notNV (i : Nat) {nm : Str} {q p : Pos} {j} (hN : X.N[i]? = some nm := by rfl) (hv : Vis X.env.scope nm := by first | exact Or.inl rfl | exact Or.inr (Or.inl rfl) | exact Or.inr (Or.inr rfl)) (hd : (nm == ("__debug__" : Str)) = false := by decide) (hcd : (nm == ("__classdict__" : Str)) = false := by decide) : XE X (.Compare (.Name nm q) [.IsNot] [.Constant .none j p] pos) (mIsNV false i) := PE.mono (pe_cmpR op_notN (pe_var hN hv hd hcd) pe_non (nomark _)) fun _ _ _ h => tm_isNV (b := false) (fun x H Q q => ⟨rfl, q⟩) h
theorem xt_isNV (i : Nat) {nm : Str} {q p : Pos} {j} (hN : X.N[i]? = some nm := by rfl) (hv : Vis X.env.scope nm := by first | exact Or.inl rfl | exact Or.inr (Or.inl rfl) | exact Or.inr (Or.inr rfl)) (hd : (nm == ("__debug__" : Str)) = false := by decide) (hcd : (nm == ("__classdict__" : Str)) = false := by decide) : XT X (.Compare (.Name nm q) [.Is] [.Constant .none j p] pos) (mTst (mIsNV true i)) := PT.mono (pt_cmpR op_isN (pe_var hN hv hd hcd) pe_non (nomark _)) fun _ _ _ h => tt_tst (fun _ q => tm_isNV (b := true) (fun x H Q q => ⟨rfl, q⟩) q) h
theorem xt_notNV (i : Nat) {nm : Str} {q p : Pos} {j} (hN : X.N[i]? = some nm := by rfl) (hv : Vis X.env.scope nm := by first | exact Or.inl rfl | exact Or.inr (Or.inl rfl) | exact Or.inr (Or.inr rfl)) (hd : (nm == ("__debug__" : Str)) = false := by decide) (hcd : (nm == ("__classdict__" : Str)) = false := by decide) : XT X (.Compare (.Name nm q) [.IsNot] [.Constant .none j p] pos) (mTst (mIsNV false i)) := PT.mono (pt_cmpR op_notN (pe_var hN hv hd hcd) pe_non (nomark _)) fun _ _ _ h => tt_tst (fun _ q => tm_isNV (b := false) (fun x H Q q => ⟨rfl, q⟩) q) h
/-! is True, is False -/
def dIsB : D → D → Option D
  | .v (.bl a), .v (.bl b) => some (.v (.bl (decide (a = b))))
  | _, _ => none
def dIsnB : D → D → Option D
  | .v (.bl a), .v (.bl b) => some (.v (.bl (!decide (a = b))))
  | _, _ => none
theorem opd_isB : OpD K mg rIsB dIsB := by
  intro G H x y d e d' f Q gh h n q k
  unfold dIsB at q
  split at q
  · cases q
    obtain ⟨f1, f2, rfl, h1, h2⟩ := h.two
    obtain ⟨rfl, rfl⟩ := h1.v_inv
    obtain ⟨rfl, rfl⟩ := h2.v_inv
    exact ⟨_, _, rfl, rfl, k _ G H (VPst.val gh)⟩
  · cases q
theorem opd_isnB : OpD K mg rNotB dIsnB := by
  intro G H x y d e d' f Q gh h n q k
  unfold dIsnB at q
  split at q
  · cases q
    obtain ⟨f1, f2, rfl, h1, h2⟩ := h.two
    obtain ⟨rfl, rfl⟩ := h1.v_inv
    obtain ⟨rfl, rfl⟩ := h2.v_inv
    exact ⟨_, _, rfl, rfl, k _ G H (VPst.val gh)⟩
  · cases q
theorem xe_isB (ha : XE X a ma) (hb : XE X b mb) : XE X (.Compare a [.Is] [b] pos) (mOp dIsB ma mb) := xe_cmp op_isBl opd_isB ha hb (nomark _)
theorem xe_isnB (ha : XE X a ma) (hb : XE X b mb) : XE X (.Compare a [.IsNot] [b] pos) (mOp dIsnB ma mb) := xe_cmp op_notBl opd_isnB ha hb (nomark _)
theorem xt_isB (ha : XE X a ma) (hb : XE X b mb) : XT X (.Compare a [.Is] [b] pos) (mTst (mOp dIsB ma mb)) := xt_cmp op_isBl opd_isB ha hb (nomark _)
theorem xt_isnB (ha : XE X a ma) (hb : XE X b mb) : XT X (.Compare a [.IsNot] [b] pos) (mTst (mOp dIsnB ma mb)) := xt_cmp op_notBl opd_isnB ha hb (nomark _)
/-! ### a < b <= c for ints -/
def mChn (p p' : Int → Int → Bool) (ma mb mc : ME) : ME := fun ds => match ma ds with
  | some (.v (.int i), ds1) => match mb ds1 with
    | some (.v (.int j), ds2) => if p i j = true then match mc ds2 with
        | some (.v (.int k), ds3) => some (.v (.bl (p' j k)), ds3)
        | _ => none
      else some (.v (.bl false), ds2)
    | _ => none
  | _ => none
theorem tm_chn {p p' : Int → Int → Bool} (h : tm K mg (mChn p p' ma mb mc) σ H Q) : tChain (rI0 fun i j => .bl (p i j)) (rI0 fun i j => .bl (p' i j)) (tm K mg ma) (tm K mg mb) (tm K mg mc) σ H Q := by
  obtain ⟨G, ds, f, d, ds', gh, o, n, e, k⟩ := h
  unfold mChn at e
  split at e
  · rename_i i ds1 e1
    split at e
    · rename_i j ds2 e2
      refine ⟨G, ds, f, _, ds1, gh, o, n, e1, fun v1 G1 H1 p1 => ?_⟩
      obtain ⟨f1, f2, x1, o1, q1, n1⟩ := p1
      obtain ⟨rfl, rfl⟩ := q1.v_inv
      refine ⟨G1, ds1, f1, _, ds2, x1.gh, o1, (List.nodup_append.mp n1).1, e2, fun v2 G2 H2 p2 => ?_⟩
      obtain ⟨f3, f4, x2, o2, q2, n2⟩ := p2
      obtain ⟨rfl, rfl⟩ := q2.v_inv
      refine ⟨i, j, rfl, rfl, p i j, rfl, ?_⟩
      split at e
      · rename_i hp
        rw [if_pos hp]
        split at e
        · rename_i kk ds3 e3
          cases e
          refine ⟨G2, ds2, f3, _, _, x2.gh, o2, (List.nodup_append.mp n2).1, e3, fun v3 G3 H3 p3 => ?_⟩
          have p3' := Pst.nil_trans x1 (Pst.nil_trans x2 p3)
          obtain ⟨f5, f6, x3, o3, q3, n3⟩ := p3
          obtain ⟨rfl, rfl⟩ := q3.v_inv
          exact ⟨j, kk, rfl, rfl, k _ G3 H3 (p3'.toV _)⟩
        · cases e
      · rename_i hp
        cases e
        rw [if_neg hp]
        have : Pst K mg f1 G1 H1 σ ds' [] [] G2 H2 := ⟨f3, [], x2, o2, .nil, n2⟩
        exact k _ G2 H2 ((Pst.nil_trans x1 this).toV _)
    · cases e
  · cases e
abbrev ltP : Int → Int → Bool := fun i j => decide (i < j)
abbrev leP : Int → Int → Bool := fun i j => decide (i ≤ j)
abbrev gtP : Int → Int → Bool := fun i j => decide (j < i)
abbrev geP : Int → Int → Bool := fun i j => decide (j ≤ i)
theorem xe_chn {op op' : CmpOp} {p p' : Int → Int → Bool} (ho : OpR X (compareOp op) (rI0 fun i j => .bl (p i j))) (ho' : OpR X (compareOp op') (rI0 fun i j => .bl (p' i j))) (ha : XE X a ma) (hb : XE X b mb) (hc : XE X c mc) (hm : lastMarks [op, op'] [b, c] = false := by with_unfolding_all rfl) : XE X (.Compare a [op, op'] [b, c] pos) (mChn p p' ma mb mc) := PE.mono (pe_chain ho ho' ha hb hc hm) fun _ _ _ h => tm_chn h
theorem xt_chn {op op' : CmpOp} {p p' : Int → Int → Bool} (ho : OpR X (compareOp op) (rI0 fun i j => .bl (p i j))) (ho' : OpR X (compareOp op') (rI0 fun i j => .bl (p' i j))) (ha : XE X a ma) (hb : XE X b mb) (hc : XE X c mc) (hm : lastMarks [op, op'] [b, c] = false := by with_unfolding_all rfl) : XT X (.Compare a [op, op'] [b, c] pos) (mTst (mChn p p' ma mb mc)) := PT.mono (pt_chain ho ho' ha hb hc hm) fun _ _ _ h => tt_tst (fun _ q => tm_chn q) h
/-! ### bits -/
def dAnd : D → D → Option D := dInt2 fun i j => .int (Builtin.bitAnd i j)
def dOr : D → D → Option D := dInt2 fun i j => .int (Builtin.bitOr i j)
theorem xe_band (ha : XE X a ma) (hb : XE X b mb) : XE X (.BinOp a .BitAnd b pos) (mOp dAnd ma mb) := xe_op op_and opd_int ha hb
theorem xe_bor (ha : XE X a ma) (hb : XE X b mb) : XE X (.BinOp a .BitOr b pos) (mOp dOr ma mb) := xe_op op_or opd_int ha hb
/-! ### x[::-1] -/
def mRev (m : ME) : ME := fun ds => match m ds with
  | some (.lst _ es, ds1) => if cleans es then some (.lst .own es.reverse, ds1) else none
  | _ => none
theorem Owns.rev : ∀ {es : List D} {vs : List V}, Owns K mg G H vs es [] → Owns K mg G H vs.reverse es.reverse [] := by
  intro es
  induction es with
  | nil => intro vs h; have := h.length; have : vs = [] := List.eq_nil_of_length_eq_zero this; subst this; exact .nil
  | cons d es ih =>
    intro vs h
    cases vs with
    | nil => cases h
    | cons v vs =>
      obtain ⟨f1, f2, hf, h1, h2⟩ := h.cons_inv
      obtain ⟨rfl, rfl⟩ := List.append_eq_nil_iff.mp hf.symm
      simpa using (ih h2).append h1
theorem tm_rev {m : ME} (h : tm K mg (mRev m) σ H Q) : tRevL K (tm K mg m) σ H Q := by
  obtain ⟨G, ds, f, d, ds', gh, o, n, e, k⟩ := h
  unfold mRev at e
  split at e
  · rename_i oo es ds1 e1
    split at e
    · rename_i c
      cases e
      refine ⟨G, ds, f, _, _, gh, o, n, e1, fun v G1 H1 p1 => ?_⟩
      obtain ⟨f1, f2, x1, o1, q1, n1⟩ := p1
      obtain ⟨aa, xs, f', rfl, hs, w, s1, _⟩ := q1.lst_inv x1.gh
      have : f' = [] := w.clean c
      subst this
      exact ⟨aa, xs, rfl, hs, fun p hp => k _ _ _ (Pst.map x1 o1 n1 (VPst.newL x1.gh w.rev (by simp) List.nodup_nil hp))⟩
    · cases e
  · cases e
theorem xe_rev {e : Expr} {m : ME} {kk : Nat} {p1 p2 p3 : Pos} (he : XE X e m) : XE X (.Subscript e (.Slice none none (some (.UnaryOp .USub (.Constant (.int 1) kk p1) p2)) p3) pos) (mRev m) := PE.mono (pe_revL he) fun _ _ _ h => tm_rev h
/-! ### the own list at a slot is changed -/
theorem Pst.mutL {i : Nat} (x2 : Ext f G H (g1 ++ g2) G2 H2) (o2 : OwnS K mg G2 H2 σ ds1 g1) (q2 : Owns K mg G2 H2 ws es2 g2) (n2 : (g1 ++ g2).Nodup) (h2 : ds1[i]? = some (some (.lst .own es))) :
    ∃ a xs f', σ[i]? = some (some (.ref a)) ∧ H2 a = some (.lst xs) ∧ Owns K mg G2 H2 xs es f' ∧ (f' ++ g2).Nodup ∧
      ∀ {xs' : List V} {es' : List D} {f'' : List Addr} {vs3 : List V} {es3 : List D} {f3 : List Addr}, Owns K mg G2 H2 xs' es' f'' → Owns K mg G2 H2 vs3 es3 f3 → (f'' ++ f3).Nodup → (∀ p ∈ f'' ++ f3, p ∈ f' ++ g2) → Pst K mg f G H σ (ds1.set i (some (.lst .own es'))) vs3 es3 G2 (upd H2 a (.lst xs')) := by
  obtain ⟨v', fa, fb, fc, rfl, hv', ho, kk2⟩ := o2.split h2
  obtain ⟨a, xs, f', rfl, eH, eG, w, rfl⟩ := ho.own_inv
  refine ⟨a, xs, f', hv', eH, w, ?_, fun {xs' es' f'' vs3 es3 f3} w' w3 n3 s3 => ?_⟩
  · simp only [List.nodup_append, List.mem_append, List.nodup_cons, List.mem_cons] at n2 ⊢
    exact ⟨n2.1.1.2.1.2, n2.2.1, fun p hp q hq z => n2.2.2 p (.inl (.inr (.inr hp))) q hq z⟩
  · have hd : ∀ p, p ∈ fa ∨ p ∈ fc ∨ p ∈ f' ∨ p ∈ g2 → p ≠ a := by
      intro p hp z
      subst z
      simp only [List.nodup_append, List.mem_append, List.nodup_cons, List.mem_cons] at n2
      rcases hp with hp | hp | hp | hp
      · exact n2.1.1.2.2 p hp p (.inl rfl) rfl
      · exact n2.1.2.2 p (.inr (.inl rfl)) p hp rfl
      · exact n2.1.1.2.1.1 hp
      · exact n2.2.2 p (.inl (.inr (.inl rfl))) p hp rfl
    have hd3 : ∀ p, p ∈ f'' ++ f3 → p ≠ a := fun p hp => hd p (by have := s3 p hp; simp only [List.mem_append] at this; rcases this with h | h <;> simp [h])
    have hk : ∀ p, p ≠ a → ∀ u, H2 p = some u → upd H2 a (.lst xs') p = some u := fun p hp u e => by rw [upd_ne hp]; exact e
    have w4 : Owns K mg G2 (upd H2 a (.lst xs')) xs' es' f'' := w'.frame (Same.refl G2) fun p hp => ⟨hk p (hd3 p (List.mem_append_left _ hp)), (w'.here p hp).2⟩
    have w5 : Owns K mg G2 (upd H2 a (.lst xs')) vs3 es3 f3 := w3.frame (Same.refl G2) fun p hp => ⟨hk p (hd3 p (List.mem_append_right _ hp)), (w3.here p hp).2⟩
    have hgh : Same G2 (upd H2 a (.lst xs')) := fun p u e => hk p (fun z => by subst z; rw [eG] at e; cases e) u (x2.gh p u e)
    obtain ⟨_, k2⟩ := kk2 G2 (upd H2 a (.lst xs')) (Same.refl G2) fun p hp => ⟨hk p (hd p (by rcases hp with h | h <;> simp [h])), (o2.here p (by rcases hp with h | h <;> simp [h])).2⟩
    have o5 := k2 _ _ (Owns.ol upd_same eG w4 .nil)
    refine ⟨_, f3, ?_, o5, w5, ?_⟩
    · refine ⟨hgh, x2.gg, fun p u e hp => ?_, fun p hp => ?_, x2.gn⟩
      · refine hk p (fun z => ?_) u (x2.keep p u e hp)
        subst z
        rcases x2.fpn p (by simp) with h | h
        · exact hp h
        · rw [h] at e; cases e
      · refine x2.fpn p ?_
        simp only [List.mem_append, List.mem_cons, List.append_nil] at hp s3 ⊢
        rcases hp with ((h | h | h) | h) | h
        · simp [h]
        · simp [h]
        · rcases s3 p (.inl h) with h | h <;> simp [h]
        · simp [h]
        · rcases s3 p (.inr h) with h | h <;> simp [h]
    · simp only [List.nodup_append, List.mem_append, List.nodup_cons, List.mem_cons, List.append_nil] at n2 n3 s3 hd3 ⊢
      refine ⟨⟨⟨n2.1.1.1, ⟨fun h => hd3 a (.inl h) rfl, n3.1⟩, fun p hp q hq z => ?_⟩, n2.1.2.1, fun p hp q hq z => ?_⟩, n3.2.1, fun p hp q hq z => ?_⟩
      · rcases hq with hq | hq
        · exact hd p (.inl hp) (z.trans hq)
        · rcases s3 q (.inl hq) with h | h
          · exact n2.1.1.2.2 p hp q (.inr h) z
          · exact n2.2.2 p (.inl (.inl hp)) q h z
      · rcases hp with hp | hp | hp
        · exact n2.1.2.2 p (.inl hp) q hq z
        · exact hd q (.inr (.inl hq)) (z.symm.trans hp)
        · rcases s3 p (.inl hp) with h | h
          · exact n2.1.2.2 p (.inr (.inr h)) q hq z
          · exact n2.2.2 q (.inr hq) p h z.symm
      · rcases hp with (hp | hp | hp) | hp
        · rcases s3 q (.inr hq) with h | h
          · exact n2.1.1.2.2 p hp q (.inr h) z
          · exact n2.2.2 p (.inl (.inl hp)) q h z
        · exact hd3 q (.inr hq) (z.symm.trans hp)
        · exact n3.2.2 p hp q hq z
        · rcases s3 q (.inr hq) with h | h
          · exact n2.1.2.2 q (.inr (.inr h)) p hp z.symm
          · exact n2.2.2 p (.inr hp) q h z
/-! x.extend(e) -/
def mExtend (i : Nat) (me : ME) : MS := fun ds => match ds[i]? with
  | some (some (.lst _ _)) => match me ds with
    | some (.lst o2 zs, ds1) => match ds1[i]? with
      | some (some (.lst .own es)) => if o2 ≠ .ext ∧ es.length + zs.length < 10000000 then some (.nx (ds1.set i (some (.lst .own (es ++ zs))))) else none
      | _ => none
    | _ => none
  | _ => none
theorem ts_extend {i : Nat} {me : ME} (h : ts K mg fx (mExtend i me) E σ H) : tDrop (tBM K "list" rExtend (tVar i) (tCons (tm K mg me) tNil)) E σ H := by
  obtain ⟨G, ds, f, out, gh, o, n, e, k⟩ := h
  unfold mExtend at e
  split at e
  · rename_i oo es0 h0
    obtain ⟨v, _, _, _, rfl, hv, ho0, _⟩ := o.split h0
    obtain ⟨a0, xs0, _, rfl, eH0, _, _, _⟩ := ho0.lst_inv gh
    split at e
    · rename_i o2 zs ds1 e1
      split at e
      · rename_i es h2
        split at e
        · rename_i c
          cases e
          refine ⟨_, hv, .inl ⟨rfl, xs0, eH0⟩, G, ds, _, _, ds1, gh, o, n, e1, fun y G2 H2 p2 => ?_⟩
          obtain ⟨g1, g2, x2, o2', q2, n2⟩ := p2
          obtain ⟨a, xs, f', hv', eH, w, nn, fin⟩ := Pst.mutL x2 o2' q2 n2 h2
          rw [hv] at hv'; cases hv'
          obtain ⟨b, zs', f3, rfl, eb, w3, s3, m3⟩ := q2.lstH_inv x2.gh c.1
          have nn' := List.nodup_append.mp nn
          refine ⟨a0, b, xs, zs', rfl, rfl, eH, eb, by rw [w.length, w3.length, sizeLine_eq]; omega, k σ (FixS.refl _ _) G2 _ (fin (w.append w3) .nil ?_ ?_)⟩
          · rw [List.append_nil, List.nodup_append]
            exact ⟨nn'.1, m3 nn'.2.1, fun p hp q hq => nn'.2.2 p hp q (s3 q hq)⟩
          · intro p hp
            simp only [List.mem_append, List.append_nil] at hp ⊢
            exact hp.imp id (s3 p)
        · cases e
      · cases e
    · cases e
  · cases e
theorem xs_extend (i : Nat) {nm : Str} {p apos cpos : Pos} {e : Expr} {me : ME} (he : XE X e me) (hN : X.N[i]? = some nm := by rfl) (hv : Vis X.env.scope nm := by first | exact Or.inl rfl | exact Or.inr (Or.inl rfl) | exact Or.inr (Or.inr rfl)) (hd : (nm == ("__debug__" : Str)) = false := by decide) (hcd : (nm == ("__classdict__" : Str)) = false := by decide)
    (hse : starEach [e] X.env = (false, eval e X.env) :: starEach [] X.env := by rfl)
    (hbase : attributeBase (.Name nm p) "extend" X.env (eval (.Name nm p) X.env) = eval (.Name nm p) X.env := by rfl) (hfew : ((backTo cpos (starEach [e] X.env)).all (fun x => !x.1) && (backToKw cpos (keywordEach [] X.env)).all (fun x => x.1.isSome) && decide (([e] : List Expr).length + ([] : List Keyword).length + (if ([] : List Keyword).isEmpty then 0 else 1) < 30)) = true := by rfl) (hline : (apos.endLine == cpos.line) = true := by rfl) (hplain : (backTo cpos (starEach [] X.env)).any (·.1) = false := by rfl)
    (hsw : swapsWith (.Call (.Attribute (.Name nm p) "extend" apos) [e] [] cpos) none pos.line X.env = pure false := by rfl) : XS X fx (.Expr (.Call (.Attribute (.Name nm p) "extend" apos) [e] [] cpos) pos) (mExtend i me) :=
  PS.mono (ps_expr (pe_bm PySem.F.plainAttrs_list PySem.F.slot_list_extend PySem.F.type_list_extend mt_extend (pe_var hN hv hd hcd) (pa_cons he pa_nil hse) hbase hfew hline hse hplain) hsw) fun _ _ _ h => ts_extend h
/-! x.pop() as a value -/
def mPop (i : Nat) : ME := fun ds => match ds[i]? with
  | some (some (.lst .own es)) => match es[es.length - 1]? with
    | some d => some (d, ds.set i (some (.lst .own es.dropLast)))
    | none => none
  | _ => none
theorem Owns.snoc_inv : ∀ {es : List D} {vs : List V} {f : List Addr} {d : D}, Owns K mg G H vs es f → es[es.length - 1]? = some d → ∃ v f1 f2, vs[vs.length - 1]? = some v ∧ f = f1 ++ f2 ∧ Owns K mg G H vs.dropLast es.dropLast f1 ∧ Owns K mg G H [v] [d] f2 := by
  intro es
  induction es with
  | nil => intro vs f d h e; simp at e
  | cons d0 es ih =>
    intro vs f d h e
    cases vs with
    | nil => cases h
    | cons v vs =>
      obtain ⟨f1, f2, rfl, h1, h2⟩ := h.cons_inv
      cases es with
      | nil =>
        have := h2.length
        have : vs = [] := List.eq_nil_of_length_eq_zero this
        subst this
        cases h2
        have : d0 = d := by simpa using e
        subst this
        exact ⟨v, [], f1, rfl, by simp, .nil, h1⟩
      | cons d1 es =>
        cases vs with
        | nil => cases h2
        | cons v1 vs =>
          obtain ⟨w, g1, g2, e1, rfl, e3, e4⟩ := ih (d := d) h2 (by simpa using e)
          exact ⟨w, f1 ++ g1, g2, by simpa using e1, by simp, h1.append e3, e4⟩
theorem tm_pop {i : Nat} (h : tm K mg (mPop i) σ H Q) : tBM0 K "list" rPop (tVar i) σ H Q := by
  obtain ⟨G, ds, f, d, ds', gh, o, n, e, k⟩ := h
  unfold mPop at e
  split at e
  · rename_i es h2
    split at e
    · rename_i d1 e1
      cases e
      obtain ⟨a, xs, f', hv', eH, w, nn, fin⟩ := Pst.mutL (f := f) (g1 := f) (g2 := []) (by simpa using Ext.refl gh f) o (ws := []) (es2 := []) .nil (by simpa using n) h2
      obtain ⟨v, f3, f4, ev, rfl, w3, w4⟩ := w.snoc_inv e1
      refine ⟨_, hv', .inl ⟨rfl, xs, .inl (.inl eH)⟩, a, xs, v, rfl, rfl, eH, ev, k v G _ (fin w3 w4 (by simpa using nn) (by intro p hp; simpa using hp))⟩
    · cases e
  · cases e
theorem xe_pop (i : Nat) {nm : Str} {p apos cpos : Pos} (hN : X.N[i]? = some nm := by rfl) (hv : Vis X.env.scope nm := by first | exact Or.inl rfl | exact Or.inr (Or.inl rfl) | exact Or.inr (Or.inr rfl)) (hd : (nm == ("__debug__" : Str)) = false := by decide) (hcd : (nm == ("__classdict__" : Str)) = false := by decide)
    (hbase : attributeBase (.Name nm p) "pop" X.env (eval (.Name nm p) X.env) = eval (.Name nm p) X.env := by rfl) (hline : (apos.endLine == cpos.line) = true := by rfl) : XE X (.Call (.Attribute (.Name nm p) "pop" apos) [] [] cpos) (mPop i) :=
  PE.mono (pe_bm0 PySem.F.plainAttrs_list PySem.F.slot_list_pop PySem.F.type_list_pop mt_pop (pe_var hN hv hd hcd) hbase hline) fun _ _ _ h => tm_pop h
/-! x.clear() -/
def mClear (i : Nat) : MS := fun ds => match ds[i]? with
  | some (some (.lst .own _)) => some (.nx (ds.set i (some (.lst .own []))))
  | _ => none
theorem ts_clear {i : Nat} (h : ts K mg fx (mClear i) E σ H) : tDrop (tBM0 K "list" rClear (tVar i)) E σ H := by
  obtain ⟨G, ds, f, out, gh, o, n, e, k⟩ := h
  unfold mClear at e
  split at e
  · rename_i es h2
    cases e
    obtain ⟨a, xs, f', hv', eH, w, nn, fin⟩ := Pst.mutL (f := f) (g1 := f) (g2 := []) (by simpa using Ext.refl gh f) o (ws := []) (es2 := []) .nil (by simpa using n) h2
    exact ⟨_, hv', .inl ⟨rfl, xs, .inl (.inl eH)⟩, a, xs, rfl, rfl, eH, k σ (FixS.refl _ _) G _ (fin .nil .nil (by simp) (by simp))⟩
  · cases e
theorem xs_clear (i : Nat) {nm : Str} {p apos cpos : Pos} (hN : X.N[i]? = some nm := by rfl) (hv : Vis X.env.scope nm := by first | exact Or.inl rfl | exact Or.inr (Or.inl rfl) | exact Or.inr (Or.inr rfl)) (hd : (nm == ("__debug__" : Str)) = false := by decide) (hcd : (nm == ("__classdict__" : Str)) = false := by decide)
    (hbase : attributeBase (.Name nm p) "clear" X.env (eval (.Name nm p) X.env) = eval (.Name nm p) X.env := by rfl) (hline : (apos.endLine == cpos.line) = true := by rfl)
    (hsw : swapsWith (.Call (.Attribute (.Name nm p) "clear" apos) [] [] cpos) none pos.line X.env = pure false := by rfl) : XS X fx (.Expr (.Call (.Attribute (.Name nm p) "clear" apos) [] [] cpos) pos) (mClear i) :=
  PS.mono (ps_expr (pe_bm0 PySem.F.plainAttrs_list PySem.F.slot_list_clear PySem.F.type_list_clear mt_clear (pe_var hN hv hd hcd) hbase hline) hsw) fun _ _ _ h => ts_clear h
end
end Z
namespace Z
open PySem PySem.Spec L2
theorem PE.or {X : Cx} {e : Expr} {t t' : TE} (h : PE X e t) (h' : PE X e t') : PE X e (fun σ H Q => t σ H Q ∨ t' σ H Q) :=
  ⟨fun pins s σ H Q I q => q.elim (h.run pins s σ H Q I) (h'.run pins s σ H Q I)⟩
theorem PT.or {X : Cx} {e : Expr} {t t' : TT} (h : PT X e t) (h' : PT X e t') : PT X e (fun σ H Q => t σ H Q ∨ t' σ H Q) :=
  ⟨fun pins s σ H Q I q => q.elim (h.run pins s σ H Q I) (h'.run pins s σ H Q I)⟩
theorem PS.or {X : Cx} {e : Stmt} {t t' : TS} (h : PS X e t) (h' : PS X e t') : PS X e (fun D σ H => t D σ H ∨ t' D σ H) :=
  ⟨fun pins s σ H D I q => q.elim (h.run pins s σ H D I) (h'.run pins s σ H D I)⟩
section
variable {κ : Type} [DecidableEq κ]
def hasK (ks : List κ) (k : κ) : Bool := decide (k ∈ ks)
def getD_ : List κ → List D → κ → Option D
  | k0 :: ks, d :: ds, k => if k0 = k then some d else getD_ ks ds k
  | _, _, _ => none
def repD : List κ → List D → κ → D → List D
  | k0 :: ks, e :: es, k, d => (if k0 = k then d else e) :: repD ks es k d
  | _, es, _, _ => es
def putD (ks : List κ) (es : List D) (k : κ) (d : D) : Option (List κ × List D) :=
  if k ∈ ks then (if clean d then some (ks, repD ks es k d) else none) else some (ks ++ [k], es ++ [d])
def mergeD (ks : List κ) (es : List D) : List (κ × D) → Option (List κ × List D)
  | [] => some (ks, es)
  | (k, d) :: r => match putD ks es k d with
    | some (ks', es') => mergeD ks' es' r
    | none => none
end
def dKey : D → Option Key
  | .v (.int i) => some (.inl i)
  | .v (.str s) => some (.inr s)
  | _ => none
section
variable {K : PySem.W.Frag} {mg : Str → Option Value} {f f1 f2 g1 g2 : List Addr} {G H G1 H1 G2 H2 : Hp} {σ : L2.St} {ds ds1 ds2 : DS} {vs ws : List V} {es es2 : List D} {x y : V} {d e : D} {X : Cx} {Q : VK} {fx : Nat → Bool} {E : Ends}
theorem dKey_own (h : Owns K mg G H [x] [d] f) {k : Key} (e : dKey d = some k) : x = kV k ∧ f = [] := by
  unfold dKey at e
  split at e
  · cases e; exact h.v_inv
  · cases e; exact h.v_inv
  · cases e
theorem Owns.dic_inv {o : O} {ks : List Key} (h : Owns K mg G H [x] [.dic o ks es] f) (g : Same G H) : ∃ a kvs f', x = .ref a ∧ H a = some (.dK kvs) ∧ kvs.map (·.1) = ks ∧ Owns K mg G H (kvs.map (·.2)) es f' ∧ (∀ p ∈ f', p ∈ f) ∧ (f.Nodup → f'.Nodup) := by
  cases h with
  | fd e e2 w n => cases n; exact ⟨_, _, _, rfl, g _ _ e, e2, w, by simp, by simp⟩
  | od e eg e2 w n => cases n; exact ⟨_, _, _, rfl, e, e2, w, fun p hp => by simp [hp], fun n => by simpa using (List.nodup_cons.mp n).2⟩
theorem Owns.dit_inv {o : O} {ks : List (List Key)} (h : Owns K mg G H [x] [.dit o ks es] f) (g : Same G H) : ∃ a kvs f', x = .ref a ∧ H a = some (.dT kvs) ∧ kvs.map (·.1) = ks ∧ Owns K mg G H (kvs.map (·.2)) es f' ∧ (∀ p ∈ f', p ∈ f) ∧ (f.Nodup → f'.Nodup) := by
  cases h with
  | ft e e2 w n => cases n; exact ⟨_, _, _, rfl, g _ _ e, e2, w, by simp, by simp⟩
  | ot e eg e2 w n => cases n; exact ⟨_, _, _, rfl, e, e2, w, fun p hp => by simp [hp], fun n => by simpa using (List.nodup_cons.mp n).2⟩
section
variable {κ : Type} [DecidableEq κ]
theorem Owns.getS {k : κ} {d : D} : ∀ {kvs : List (κ × V)} {es : List D} {f : List Addr}, Owns K mg G H (kvs.map (·.2)) es f → getD_ (kvs.map (·.1)) es k = some d → ∃ v f', valV kvs k = some v ∧ Owns K mg G H [v] [d] f' ∧ (∀ p ∈ f', p ∈ f) ∧ (f.Nodup → f'.Nodup) := by
  intro kvs
  induction kvs with
  | nil => intro es f h e; simp [getD_] at e
  | cons kv kvs ih =>
    intro es f h e
    cases es with
    | nil => simp [getD_] at e
    | cons d0 es =>
      obtain ⟨f1, f2, rfl, h1, h2⟩ := Owns.cons_inv h
      simp only [List.map_cons, getD_] at e
      split at e
      · rename_i hk
        cases e
        exact ⟨kv.2, f1, valV_pos hk, h1, fun p hp => List.mem_append_left _ hp, fun n => (List.nodup_append.mp n).1⟩
      · rename_i hk
        obtain ⟨v, f', a, b, c, n⟩ := ih h2 e
        exact ⟨v, f', (valV_neg hk).trans a, b, fun p hp => List.mem_append_right _ (c p hp), fun nn => n (List.nodup_append.mp nn).2.1⟩
theorem valV_in {k : κ} : ∀ {kvs : List (κ × V)}, (valV kvs k).isSome = decide (k ∈ kvs.map (·.1)) := by
  intro kvs
  induction kvs with
  | nil => simp [valV_nil]
  | cons kv kvs ih =>
    by_cases h : kv.1 = k
    · rw [valV_pos h]; simp [h]
    · rw [valV_neg h, ih]
      simp only [List.map_cons, List.mem_cons, decide_eq_decide]
      exact ⟨.inr, fun q => q.elim (fun z => absurd z.symm h) id⟩
theorem putK_in {kvs : List (κ × V)} {k : κ} {v : V} (h : k ∈ kvs.map (·.1)) : putK kvs k v = kvs.map fun kv => if kv.1 = k then (kv.1, v) else kv := by
  unfold putK
  rw [if_pos]
  rw [valV_any, valV_in]
  exact decide_eq_true h
theorem Owns.rep {k : κ} {v : V} {d : D} (hv : Owns K mg G H [v] [d] []) : ∀ {kvs : List (κ × V)} {es : List D} {f : List Addr}, Owns K mg G H (kvs.map (·.2)) es f → ∃ f', Owns K mg G H ((kvs.map fun kv => if kv.1 = k then (kv.1, v) else kv).map (·.2)) (repD (kvs.map (·.1)) es k d) f' ∧ (∀ p ∈ f', p ∈ f) ∧ (f.Nodup → f'.Nodup) := by
  intro kvs
  induction kvs with
  | nil =>
    intro es f h
    cases es with
    | nil => exact ⟨f, h, fun p hp => hp, id⟩
    | cons d0 es => cases h
  | cons kv kvs ih =>
    intro es f h
    cases es with
    | nil => have := h.length; simp at this
    | cons d0 es =>
      obtain ⟨f1, f2, rfl, h1, h2⟩ := Owns.cons_inv h
      obtain ⟨f', a, b, c⟩ := ih h2
      simp only [List.map_cons, repD]
      by_cases hk : kv.1 = k
      · simp only [hk, if_true]
        exact ⟨f', by simpa using hv.append a, fun p hp => List.mem_append_right _ (b p hp), fun n => c (List.nodup_append.mp n).2.1⟩
      · simp only [hk, if_false]
        refine ⟨f1 ++ f', by simpa using h1.append a, fun p hp => ?_, fun n => ?_⟩
        · rcases List.mem_append.mp hp with hp | hp
          · exact List.mem_append_left _ hp
          · exact List.mem_append_right _ (b p hp)
        · have nn := List.nodup_append.mp n
          exact List.nodup_append.mpr ⟨nn.1, c nn.2.1, fun p hp q hq => nn.2.2 p hp q (b q hq)⟩
theorem map_fst_rep {kvs : List (κ × V)} {k : κ} {v : V} : (kvs.map fun kv => if kv.1 = k then (kv.1, v) else kv).map (·.1) = kvs.map (·.1) := by
  rw [List.map_map]
  apply List.map_congr_left
  intro p _
  simp only [Function.comp]
  split <;> rfl
theorem Owns.put {kvs : List (κ × V)} {k : κ} {v : V} {d : D} {ks' : List κ} {es' : List D} (h : Owns K mg G H (kvs.map (·.2)) es f) (hv : Owns K mg G H [v] [d] g1) (n : (f ++ g1).Nodup) (e : putD (kvs.map (·.1)) es k d = some (ks', es')) :
    (putK kvs k v).map (·.1) = ks' ∧ ∃ f', Owns K mg G H ((putK kvs k v).map (·.2)) es' f' ∧ f'.Nodup ∧ ∀ p ∈ f', p ∈ f ++ g1 := by
  unfold putD at e
  split at e
  · rename_i hk
    split at e
    · rename_i c
      cases e
      have := hv.clean (clean_sing c)
      subst this
      rw [putK_in hk]
      obtain ⟨f', a, b, m⟩ := Owns.rep (k := k) hv h
      exact ⟨map_fst_rep, f', a, m (List.nodup_append.mp n).1, fun p hp => List.mem_append_left _ (b p hp)⟩
    · cases e
  · rename_i hk
    cases e
    have hn : valV kvs k = none := by
      cases hc : valV kvs k with
      | none => rfl
      | some w => have := valV_in (k := k) (kvs := kvs); rw [hc] at this; simp at this; exact absurd this (by simpa using hk)
    rw [putK_new v hn]
    refine ⟨by simp, f ++ g1, ?_, n, fun p hp => hp⟩
    simpa using h.append hv
end
/-! ### x[k], k in x: of the name in slot i, a dict -/
def dKx : D → D → Option D
  | .dic _ ks es, e => match dKey e with
    | some k => getD_ ks es k
    | none => none
  | _, _ => none
def rDx : R2 := fun x y H Q => ∃ a v, x = .ref a ∧ DGet H a y (some v) ∧ Q v H
theorem lookd_kx : LookD K mg rDx dKx := by
  intro G H x y d e d' f Q gh h1 h2 q c k
  unfold dKx at q
  split at q
  · split at q
    · rename_i kk hk
      obtain ⟨rfl, _⟩ := dKey_own h2 hk
      obtain ⟨a, kvs, f', rfl, e1, rfl, w, s1, m1⟩ := h1.dic_inv gh
      obtain ⟨v, f3, hv, w3, s3, m3⟩ := w.getS q
      have := w3.clean (clean_sing c)
      subst this
      exact ⟨a, v, rfl, .inl ⟨kvs, kk, .inl e1, rfl, hv.symm⟩, k _ G H (Ext.refl gh []) w3⟩
    · cases q
  · cases q
/-- what slot i holds says whether it is looked up as a dict -/
def isDic : Option (Option D) → Bool
  | some (some (.dic _ _ _)) => true
  | _ => false
def mLookA (i : Nat) (mb : ME) : ME := fun ds => match isDic ds[i]? with
  | true => mLook i dKx mb ds
  | false => mLook i dIx mb ds
theorem tm_lookA {i : Nat} {mb : ME} (h : tm K mg (mLookA i mb) σ H Q) : tOp (rIx K) (tVar i) (tm K mg mb) σ H Q ∨ tOp rDx (tVar i) (tm K mg mb) σ H Q := by
  obtain ⟨G, ds, f, d, ds', gh, o, n, e, k⟩ := h
  unfold mLookA at e
  split at e
  · exact .inr (tm_look lookd_kx ⟨G, ds, f, d, ds', gh, o, n, e, k⟩)
  · exact .inl (tm_look lookd_ix ⟨G, ds, f, d, ds', gh, o, n, e, k⟩)
theorem xe_ixa (i : Nat) {nm : Str} {p : Pos} {b : Expr} {pos : Pos} {mb : ME} (hu : X.A.units + 65 < cLine) (hb : XE X b mb) (hN : X.N[i]? = some nm := by rfl) (hv : Vis X.env.scope nm := by first | exact Or.inl rfl | exact Or.inr (Or.inl rfl) | exact Or.inr (Or.inr rfl)) (hd : (nm == ("__debug__" : Str)) = false := by decide) (hcd : (nm == ("__classdict__" : Str)) = false := by decide) (hs : PlainIx b := by intro _ _; rfl) (hs2 : NoSl b := by intro _ _; rfl) : XE X (.Subscript (.Name nm p) b pos) (mLookA i mb) :=
  PE.mono (PE.or (pe_ix ix_seq (pe_var hN hv hd hcd) hb hs) (pe_dget (by omega) (pe_var hN hv hd hcd) hb hs2)) fun _ _ _ h => (tm_lookA h)
/-! in: the right side a name, which stays as it is -/
def mLookR (i : Nat) (g : D → D → Option D) (ma : ME) : ME := fun ds => match ma ds with
  | some (e, ds1) => match ds1[i]? with
    | some (some d) => match g d e with
      | some d' => if clean d' && clean e then some (d', ds1) else none
      | none => none
    | _ => none
  | none => none
theorem tm_lookR {i : Nat} {r : R2} {g : D → D → Option D} {ma : ME} (hg : LookD K mg (fun x y => r y x) g) (h : tm K mg (mLookR i g ma) σ H Q) : tOp r (tm K mg ma) (tVar i) σ H Q := by
  obtain ⟨G, ds, f, d, ds', gh, o, n, e, k⟩ := h
  unfold mLookR at e
  split at e
  · rename_i e0 ds1 e1
    split at e
    · rename_i d0 hi
      split at e
      · rename_i d1 e2
        split at e
        · rename_i c
          cases e
          rw [Bool.and_eq_true] at c
          refine ⟨G, ds, f, e0, _, gh, o, n, e1, fun y G1 H1 p1 => ?_⟩
          obtain ⟨f1, f2, x1, o1, q1, n1⟩ := p1
          obtain ⟨v', fa, fb, fc, rfl, hv', ho, kk⟩ := o1.split hi
          have := q1.clean (clean_sing c.2)
          subst this
          exact ⟨v', hv', hg G1 H1 v' y d0 e0 _ fb Q x1.gh ho q1 e2 c.1 fun w G' H' y' q' => k w G' H' (Pst.put x1 o1 n1 y' q')⟩
        · cases e
      · cases e
    · cases e
  · cases e
def dInF (b : Bool) (d e : D) : Option D := (dInB e d).map fun r => .v (.bl (if b then r else !r))
theorem lookd_in : LookD K mg (fun x y => rInA K y x) (dInF true) := by
  intro G H x y d e d' f Q gh h1 h2 q c k
  unfold dInF at q
  cases hb : dInB e d with
  | none => rw [hb] at q; cases q
  | some b =>
    rw [hb] at q; cases q
    have k' := k (.bl b) G H (Ext.refl gh []) (.v .nil)
    rcases in_core (P := fun _ _ _ _ => True) gh h2 h1 hb with ⟨p, xs, rfl, hs, hf, hfs, rfl⟩ | ⟨dd, ds, p1, p2, s1, s2, rfl⟩ | ⟨u, z, rfl, rfl, rfl⟩ | ⟨i, j, rfl, rfl, rfl⟩
    · exact .inl ⟨p, xs, rfl, hs, hf, hfs, by simpa using k'⟩
    · exact .inr (.inl ⟨dd, ds, p1, p2, s1, s2, k'⟩)
    · exact .inr (.inr (.inl ⟨u, z, rfl, rfl, k'⟩))
    · exact .inr (.inr (.inr ⟨i, j, rfl, rfl, k'⟩))
theorem lookd_nin : LookD K mg (fun x y => rNinA K y x) (dInF false) := by
  intro G H x y d e d' f Q gh h1 h2 q c k
  unfold dInF at q
  cases hb : dInB e d with
  | none => rw [hb] at q; cases q
  | some b =>
    rw [hb] at q; cases q
    have k' := k (.bl (!b)) G H (Ext.refl gh []) (.v .nil)
    rcases in_core (P := fun _ _ _ _ => True) gh h2 h1 hb with ⟨p, xs, rfl, hs, hf, hfs, rfl⟩ | ⟨dd, ds, p1, p2, s1, s2, rfl⟩ | ⟨u, z, rfl, rfl, rfl⟩ | ⟨i, j, rfl, rfl, rfl⟩
    · exact .inl ⟨p, xs, rfl, hs, hf, hfs, by simpa using k'⟩
    · exact .inr (.inl ⟨dd, ds, p1, p2, s1, s2, k'⟩)
    · exact .inr (.inr (.inl ⟨u, z, rfl, rfl, k'⟩))
    · exact .inr (.inr (.inr ⟨i, j, rfl, rfl, k'⟩))
def dKin (b : Bool) : D → D → Option D
  | .dic _ ks _, e => match dKey e with
    | some k => some (.v (.bl (if b then hasK ks k else !hasK ks k)))
    | none => none
  | _, _ => none
def rDin (b : Bool) : R2 := fun y x H Q => ∃ a o, x = .ref a ∧ DGet H a y o ∧ Q (.bl (if b then o.isSome else !o.isSome)) H
theorem lookd_kin {b : Bool} : LookD K mg (fun x y => rDin b y x) (dKin b) := by
  intro G H x y d e d' f Q gh h1 h2 q c k
  unfold dKin at q
  split at q
  · split at q
    · rename_i kk hk
      cases q
      obtain ⟨rfl, _⟩ := dKey_own h2 hk
      obtain ⟨a, kvs, f', rfl, e1, rfl, w, s1, m1⟩ := h1.dic_inv gh
      refine ⟨a, _, rfl, .inl ⟨kvs, kk, .inl e1, rfl, rfl⟩, ?_⟩
      rw [valV_in]
      exact k _ G H (Ext.refl gh []) (.v .nil)
    · cases q
  · cases q
def mInV (b : Bool) (i : Nat) (ma : ME) : ME := fun ds => match isDic ds[i]? with
  | true => mLookR i (dKin b) ma ds
  | false => mLookR i (dInF b) ma ds
theorem tm_inV {i : Nat} {ma : ME} (h : tm K mg (mInV true i ma) σ H Q) : tOp (rInA K) (tm K mg ma) (tVar i) σ H Q ∨ tDIn (tm K mg ma) (tVar i) σ H Q := by
  obtain ⟨G, ds, f, d, ds', gh, o, n, e, k⟩ := h
  unfold mInV at e
  split at e
  · exact .inr (tm_lookR (r := rDin true) lookd_kin ⟨G, ds, f, d, ds', gh, o, n, e, k⟩)
  · exact .inl (tm_lookR lookd_in ⟨G, ds, f, d, ds', gh, o, n, e, k⟩)
theorem tm_ninV {i : Nat} {ma : ME} (h : tm K mg (mInV false i ma) σ H Q) : tOp (rNinA K) (tm K mg ma) (tVar i) σ H Q ∨ tDNotIn (tm K mg ma) (tVar i) σ H Q := by
  obtain ⟨G, ds, f, d, ds', gh, o, n, e, k⟩ := h
  unfold mInV at e
  split at e
  · exact .inr (tm_lookR (r := rDin false) lookd_kin ⟨G, ds, f, d, ds', gh, o, n, e, k⟩)
  · exact .inl (tm_lookR lookd_nin ⟨G, ds, f, d, ds', gh, o, n, e, k⟩)
section
variable {a : Expr} {ma : ME} {nm : Str} {p pos : Pos}
theorem xe_inV (i : Nat) (hu : X.A.units + 65 < cLine) (ha : XE X a ma) (hN : X.N[i]? = some nm := by rfl) (hv : Vis X.env.scope nm := by first | exact Or.inl rfl | exact Or.inr (Or.inl rfl) | exact Or.inr (Or.inr rfl)) (hd : (nm == ("__debug__" : Str)) = false := by decide) (hcd : (nm == ("__classdict__" : Str)) = false := by decide) : XE X (.Compare a [.In] [.Name nm p] pos) (mInV true i ma) :=
  PE.mono (PE.or (pe_cmpR (opr_in hu) ha (pe_var hN hv hd hcd) rfl) (pe_cmp (pc_din (by omega) ha (pe_var hN hv hd hcd)))) fun _ _ _ h => tm_inV h
theorem xe_ninV (i : Nat) (hu : X.A.units + 65 < cLine) (ha : XE X a ma) (hN : X.N[i]? = some nm := by rfl) (hv : Vis X.env.scope nm := by first | exact Or.inl rfl | exact Or.inr (Or.inl rfl) | exact Or.inr (Or.inr rfl)) (hd : (nm == ("__debug__" : Str)) = false := by decide) (hcd : (nm == ("__classdict__" : Str)) = false := by decide) : XE X (.Compare a [.NotIn] [.Name nm p] pos) (mInV false i ma) :=
  PE.mono (PE.or (pe_cmpR (opr_nin hu) ha (pe_var hN hv hd hcd) rfl) (pe_cmp (pc_dnotin (by omega) ha (pe_var hN hv hd hcd)))) fun _ _ _ h => tm_ninV h
theorem xt_inV (i : Nat) (hu : X.A.units + 65 < cLine) (ha : XE X a ma) (hN : X.N[i]? = some nm := by rfl) (hv : Vis X.env.scope nm := by first | exact Or.inl rfl | exact Or.inr (Or.inl rfl) | exact Or.inr (Or.inr rfl)) (hd : (nm == ("__debug__" : Str)) = false := by decide) (hcd : (nm == ("__classdict__" : Str)) = false := by decide) : XT X (.Compare a [.In] [.Name nm p] pos) (mTst (mInV true i ma)) :=
  PT.mono (PT.or (pt_cmpR (opr_in hu) ha (pe_var hN hv hd hcd) rfl) (pt_cmp (pc_din (by omega) ha (pe_var hN hv hd hcd)))) fun σ H Q h => tt_tst (t := fun σ H Q => tOp (rInA X.K) (tm X.K X.mg ma) (tVar i) σ H Q ∨ tDIn (tm X.K X.mg ma) (tVar i) σ H Q) (fun _ q => tm_inV q) h
theorem xt_ninV (i : Nat) (hu : X.A.units + 65 < cLine) (ha : XE X a ma) (hN : X.N[i]? = some nm := by rfl) (hv : Vis X.env.scope nm := by first | exact Or.inl rfl | exact Or.inr (Or.inl rfl) | exact Or.inr (Or.inr rfl)) (hd : (nm == ("__debug__" : Str)) = false := by decide) (hcd : (nm == ("__classdict__" : Str)) = false := by decide) : XT X (.Compare a [.NotIn] [.Name nm p] pos) (mTst (mInV false i ma)) :=
  PT.mono (PT.or (pt_cmpR (opr_nin hu) ha (pe_var hN hv hd hcd) rfl) (pt_cmp (pc_dnotin (by omega) ha (pe_var hN hv hd hcd)))) fun σ H Q h => tt_tst (t := fun σ H Q => tOp (rNinA X.K) (tm X.K X.mg ma) (tVar i) σ H Q ∨ tDNotIn (tm X.K X.mg ma) (tVar i) σ H Q) (fun _ q => tm_ninV q) h
end
/-! ### a dict display -/
def mPairs : List (ME × ME) → DS → Option (List (Key × D) × DS)
  | [], ds => some ([], ds)
  | (mk, mv) :: r, ds => match mk ds with
    | some (e, ds1) => match dKey e with
      | some k => match mv ds1 with
        | some (d, ds2) => match mPairs r ds2 with
          | some (l, ds3) => some ((k, d) :: l, ds3)
          | none => none
        | none => none
      | none => none
    | none => none
def mDisp (l : List (ME × ME)) : ME := fun ds => match mPairs l ds with
  | some (kds, ds1) => if kds.length ≤ 15 then match mergeD [] [] kds with
    | some (ks, es) => some (.dic .own ks es, ds1)
    | none => none
    else none
  | none => none
theorem pairs_ok : ∀ (l : List (ME × ME)) {G H : Hp} {ds ds1 : DS} {f : List Addr} {kds : List (Key × D)} {Q : List (V × V) → Hp → Prop}, Same G H → OwnS K mg G H σ ds f → f.Nodup → mPairs l ds = some (kds, ds1) →
    (∀ (kvs : List (Key × V)) G' H', kvs.map (·.1) = kds.map (·.1) → Pst K mg f G H σ ds1 (kvs.map (·.2)) (kds.map (·.2)) G' H' → Q (kvs.map fun kv => (kV kv.1, kv.2)) H') → tPairs (l.map fun p => (tm K mg p.1, tm K mg p.2)) σ H Q := by
  intro l
  induction l with
  | nil => intro G H ds ds1 f kds Q gh o n e k; cases e; exact k [] G H rfl (Pst.refl gh o n)
  | cons p r ih =>
    intro G H ds ds1 f kds Q gh o n e k
    obtain ⟨mk, mv⟩ := p
    unfold mPairs at e
    split at e
    · rename_i ek d1 e1
      split at e
      · rename_i kk hk
        split at e
        · rename_i d d2 e2
          split at e
          · rename_i l3 d3 e3
            cases e
            refine ⟨G, ds, f, _, _, gh, o, n, e1, fun x G1 H1 p1 => ?_⟩
            obtain ⟨f1, f2, x1, o1, q1, n1⟩ := p1
            obtain ⟨rfl, rfl⟩ := dKey_own q1 hk
            have n1' := (List.nodup_append.mp n1).1
            refine ⟨G1, _, f1, _, _, x1.gh, o1, n1', e2, fun y G2 H2 p2 => ?_⟩
            have p2' := Pst.nil_trans x1 p2
            obtain ⟨f3, f4, x2, o2, q2, n2⟩ := p2'
            refine ih x2.gh o2 (List.nodup_append.mp n2).1 e3 fun kvs G' H' hks p3 => ?_
            exact k ((kk, y) :: kvs) G' H' (by simp [hks]) (Pst.and x2 o2 q2 n2 p3)
          · cases e
        · cases e
      · cases e
    · cases e
theorem merge_own : ∀ {kds : List (Key × D)} {kvs more : List (Key × V)} {ks' : List Key} {es es' : List D} {f g : List Addr}, more.map (·.1) = kds.map (·.1) → Owns K mg G H (more.map (·.2)) (kds.map (·.2)) g → Owns K mg G H (kvs.map (·.2)) es f → (f ++ g).Nodup → mergeD (kvs.map (·.1)) es kds = some (ks', es') →
    (mergeK kvs more).map (·.1) = ks' ∧ ∃ f', Owns K mg G H ((mergeK kvs more).map (·.2)) es' f' ∧ f'.Nodup ∧ ∀ p ∈ f', p ∈ f ++ g := by
  intro kds
  induction kds with
  | nil =>
    intro kvs more ks' es es' f g hm h1 h2 n e
    have : more = [] := by simpa using hm
    subst this
    cases e
    exact ⟨rfl, f, h2, (List.nodup_append.mp n).1, fun p hp => List.mem_append_left _ hp⟩
  | cons kd kds ih =>
    intro kvs more ks' es es' f g hm h1 h2 n e
    cases more with
    | nil => simp at hm
    | cons kv more =>
      simp only [List.map_cons, List.cons.injEq] at hm
      obtain ⟨g1, g2, rfl, w1, w2⟩ := Owns.cons_inv h1
      obtain ⟨k, d⟩ := kd
      unfold mergeD at e
      split at e
      · rename_i ks1 es1 e1
        have n1 : (f ++ g1).Nodup := by
          rw [← List.append_assoc] at n
          exact (List.nodup_append.mp n).1
        obtain ⟨rfl, f', a, b, c⟩ := Owns.put h2 w1 n1 e1
        rw [← List.append_assoc] at n
        have nn := List.nodup_append.mp n
        obtain ⟨r1, f'', r2, r3, r4⟩ := ih (kvs := putK kvs k kv.2) hm.2 w2 a (List.nodup_append.mpr ⟨b, nn.2.1, fun p hp q hq => nn.2.2 p (c p hp) q hq⟩) e
        have hk : kv.1 = k := hm.1
        refine ⟨?_, f'', ?_, r3, fun p hp => ?_⟩
        · rw [← r1]; simp [mergeK, hk]
        · have : mergeK kvs (kv :: more) = mergeK (putK kvs k kv.2) more := by simp [mergeK, hk]
          rw [this]; exact r2
        · have := r4 p hp
          simp only [List.mem_append] at this ⊢
          rcases this with h | h
          · have := c p h
            simp only [List.mem_append] at this
            rcases this with h | h <;> simp [h]
          · simp [h]
      · cases e
theorem tm_disp {l : List (ME × ME)} (h : tm K mg (mDisp l) σ H Q) : tDisp (l.map fun p => (tm K mg p.1, tm K mg p.2)) σ H Q := by
  obtain ⟨G, ds, f, d, ds', gh, o, n, e, k⟩ := h
  unfold mDisp at e
  split at e
  · rename_i kds ds1 e1
    split at e
    · rename_i hl
      split at e
      · rename_i ks es e2
        cases e
        intro p hp
        have hne : ∀ {b : Addr} {u : HO}, H b = some u → b ≠ p := fun e => ne_of_none e hp
        have g0 : Same G (upd H p (.dK [])) := fun b u e => by rw [upd_ne (hne (gh b u e))]; exact gh b u e
        have hpf : p ∉ f := fun hm => by obtain ⟨⟨u, e⟩, _⟩ := o.here p hm; rw [hp] at e; cases e
        have o0 : OwnS K mg G (upd H p (.dK [])) σ ds f := o.frame (Same.refl G) fun a ha => ⟨fun u e => by rw [upd_ne (hne e)]; exact e, (o.here a ha).2⟩
        refine pairs_ok l g0 o0 n e1 fun kvs G2 H2 hk p2 => ?_
        obtain ⟨f1, f2, x, o1, q, n2⟩ := p2
        have hHp : H2 p = some (.dK []) := x.keep p _ upd_same hpf
        have hGp : G2 p = none := x.gn p _ (not_g gh hp) hpf upd_same
        have hpn : p ∉ f1 ++ f2 := fun hm => by
          rcases x.fpn p hm with h | h
          · exact hpf h
          · rw [upd_same] at h; cases h
        have nn := List.nodup_append.mp n2
        obtain ⟨r1, f', r2, r3, r4⟩ := merge_own (kvs := []) (es := []) (f := []) hk q .nil (by simpa using nn.2.1) e2
        have hlen : kvs.length ≤ 15 := by
          have := congrArg List.length hk
          simp at this; omega
        refine ⟨hHp, kvs, rfl, hlen, ?_⟩
        have hk2 : ∀ b, b ≠ p → ∀ u, H2 b = some u → upd H2 p (.dK (mergeK [] kvs)) b = some u := fun b hb u e => by rw [upd_ne hb]; exact e
        have r4' : ∀ b ∈ f', b ∈ f2 := fun b hb => by simpa using r4 b hb
        refine k _ G2 _ ⟨f1, p :: f', ?_, ?_, ?_, ?_⟩
        · refine ⟨fun b u e => hk2 b (fun z => by subst z; rw [hGp] at e; cases e) u (x.gh b u e), x.gg, fun b u e hb => hk2 b (hne e) u (x.keep b u (by rw [upd_ne (hne e)]; exact e) hb), fun b hb => ?_, fun b u g hb e => x.gn b u g hb (by rw [upd_ne (hne e)]; exact e)⟩
          simp only [List.mem_append, List.mem_cons] at hb
          have key : b ∈ f1 ++ f2 → b ∈ f ∨ H b = none := fun hm => by
            rcases x.fpn b hm with h | h
            · exact .inl h
            · have hbp : b ≠ p := fun z => hpn (z ▸ hm)
              rw [upd_ne hbp] at h; exact .inr h
          rcases hb with h | h | h
          · exact key (List.mem_append_left _ h)
          · subst h; exact .inr hp
          · exact key (List.mem_append_right _ (r4' b h))
        · exact o1.frame (Same.refl G2) fun b hb => ⟨hk2 b fun z => hpn (z ▸ List.mem_append_left _ hb), (o1.here b hb).2⟩
        · have w := r2.frame (G' := G2) (H' := upd H2 p (.dK (mergeK [] kvs))) (Same.refl G2) fun b hb => ⟨hk2 b fun z => hpn (z ▸ List.mem_append_right _ (r4' b hb)), (r2.here b hb).2⟩
          simpa using Owns.od upd_same hGp r1 w .nil
        · rw [List.nodup_append, List.nodup_cons]
          refine ⟨nn.1, ⟨fun hm => hpn (List.mem_append_right _ (r4' p hm)), r3⟩, fun b hb c hc z => ?_⟩
          rcases List.mem_cons.mp hc with h | h
          · exact hpn (List.mem_append_left _ (by rw [← h, ← z]; exact hb))
          · exact nn.2.2 b hb c (r4' c h) z
      · cases e
    · cases e
  · cases e
abbrev XPs (X : Cx) (pos : Pos) (keys : List (Option Expr)) (values : List Expr) (l : List (ME × ME)) : Prop := PPs X pos keys values (l.map fun p => (tm X.K X.mg p.1, tm X.K X.mg p.2))
theorem xp_nil {pos : Pos} : XPs X pos [] [] [] := pps_nil
theorem xp_cons {pos : Pos} {k v : Expr} {ks : List (Option Expr)} {vs : List Expr} {mk mv : ME} {l : List (ME × ME)} (hk : XE X k mk) (hv : XE X v mv) (hr : XPs X pos ks vs l) : XPs X pos (some k :: ks) (v :: vs) ((mk, mv) :: l) := pps_cons hk hv hr
theorem xe_disp {pos : Pos} {keys : List (Option Expr)} {values : List Expr} {l : List (ME × ME)} (h : XPs X pos keys values l) (hall : keys.all (·.isSome) = true := by rfl) (hl : keys.length = values.length := by rfl) (h0 : keys ≠ [] := by intro z; cases z) (h15 : keys.length ≤ 15 := by decide) : XE X (.Dict keys values pos) (mDisp l) :=
  PE.mono (pe_disp h hall hl h0 h15) fun _ _ _ q => tm_disp q
/-! ### a, b = e1, e2 -/
theorem Pst.bindC {i : Nat} {v : V} (p : Pst K mg f G H σ ds (v :: vs) (d :: es) G1 H1) {ds2 : DS} (e : setSlot i d ds = some ds2) : Pst K mg f G H (σ.set i (some v)) ds2 vs es G1 H1 := by
  obtain ⟨f1, f2, x1, o1, q1, n1⟩ := p
  obtain ⟨g1, g2, rfl, w1, w2⟩ := q1.cons_inv
  unfold setSlot at e
  split at e
  · rename_i hi
    cases e
    obtain ⟨fa, fb, fc, rfl, kk⟩ := o1.bind hi
    refine ⟨fa ++ g1 ++ fc, g2, x1.less ?_, kk v d g1 w1, w2, ?_⟩
    · intro p hp; simp only [List.mem_append] at hp ⊢; rcases hp with ((h | h) | h) | h <;> simp [h]
    · simp only [List.nodup_append, List.mem_append] at n1 ⊢
      refine ⟨⟨⟨n1.1.1.1, n1.2.1.1, fun a ha b hb => n1.2.2 a (.inl (.inl ha)) b (.inl hb)⟩, n1.1.2.1, fun a ha b hb z => ?_⟩, n1.2.1.2.1, fun a ha b hb z => ?_⟩
      · rcases ha with ha | ha
        · exact n1.1.2.2 a (.inl ha) b hb z
        · exact n1.2.2 b (.inr hb) a (.inl ha) z.symm
      · rcases ha with (ha | ha) | ha
        · exact n1.2.2 a (.inl (.inl ha)) b (.inr hb) z
        · exact n1.2.1.2.2 a ha b hb z
        · exact n1.2.2 a (.inr ha) b (.inr hb) z
  · cases e
theorem ts_par {i j : Nat} {m : MA} (hi : fx i = false) (hj : fx j = false) (h : ts K mg fx (mPar i j m) E σ H) : tPar i j (ta K mg m) E σ H := by
  obtain ⟨G, ds, f, out, gh, o, n, e, k⟩ := h
  unfold mPar at e
  split at e
  · rename_i d1 d2 ds1 e1
    split at e
    · rename_i ds2 e2
      split at e
      · rename_i ds3 e3
        cases e
        refine ⟨G, ds, f, _, _, gh, o, n, e1, fun vs G1 H1 p1 => ?_⟩
        obtain ⟨f1, f2, x1, o1, q1, n1⟩ := p1
        have hl := q1.length
        match vs, hl with
        | [v, w], _ =>
          have p1 : Pst K mg f G H σ ds1 [v, w] [d1, d2] G1 H1 := ⟨f1, f2, x1, o1, q1, n1⟩
          exact ⟨v, w, rfl, k _ ((FixS.set σ _ hi).trans (FixS.set _ _ hj)) G1 H1 ((p1.bindC e2).bindC e3)⟩
      · cases e
    · cases e
  · cases e
theorem xs_par (i j : Nat) {x y : Str} {a b : Expr} {m : MA} {px py pt pos : Pos} {kt k2 pt2} (hN : X.N.Nodup) (ha : XA X [a, b] m) (hfi : fx i = false := by rfl) (hfj : fx j = false := by rfl) (hc : X.calm = true := by rfl) (hi : X.N[i]? = some x := by rfl) (hj : X.N[j]? = some y := by rfl) (hij : i ≠ j := by decide) (hx : X.env.scope.names.lookup x = some .local := by rfl) (hy : X.env.scope.names.lookup y = some .local := by rfl) (hw : swappedStores [.Tuple [.Name x px, .Name y py] kt pt] (.Tuple [a, b] k2 pt2) X.env = pure (some [x, y]) := by rfl) (hs : swapsWithSole [.Tuple [.Name x px, .Name y py] kt pt] (.Tuple [a, b] k2 pt2) pos.line X.env = pure false := by rfl) : XS X fx (.Assign [.Tuple [.Name x px, .Name y py] kt pt] (.Tuple [a, b] k2 pt2) pos) (mPar i j m) :=
  PS.mono (ps_par hc hN hi hj hij hx hy ha hw hs) fun _ _ _ h => ts_par hfi hfj h
def mPar3 (i j l : Nat) (m : MA) : MS := fun ds => match m ds with
  | some ([d, e, g], ds1) => match setSlot i d ds1 with
    | some ds2 => match setSlot j e ds2 with
      | some ds3 => match setSlot l g ds3 with
        | some ds4 => some (.nx ds4)
        | none => none
      | none => none
    | none => none
  | _ => none
theorem ts_par3 {i j l : Nat} {m : MA} (hi : fx i = false) (hj : fx j = false) (hl : fx l = false) (h : ts K mg fx (mPar3 i j l m) E σ H) : tPar3 i j l (ta K mg m) E σ H := by
  obtain ⟨G, ds, f, out, gh, o, n, e, k⟩ := h
  unfold mPar3 at e
  split at e
  · rename_i d1 d2 d3 ds1 e1
    split at e
    · rename_i ds2 e2
      split at e
      · rename_i ds3 e3
        split at e
        · rename_i ds4 e4
          cases e
          refine ⟨G, ds, f, _, _, gh, o, n, e1, fun vs G1 H1 p1 => ?_⟩
          obtain ⟨f1, f2, x1, o1, q1, n1⟩ := p1
          have hl' := q1.length
          match vs, hl' with
          | [v, w, u], _ =>
            have p1 : Pst K mg f G H σ ds1 [v, w, u] [d1, d2, d3] G1 H1 := ⟨f1, f2, x1, o1, q1, n1⟩
            exact ⟨v, w, u, rfl, k _ (((FixS.set σ _ hi).trans (FixS.set _ _ hj)).trans (FixS.set _ _ hl)) G1 H1 (((p1.bindC e2).bindC e3).bindC e4)⟩
        · cases e
      · cases e
    · cases e
  · cases e
theorem xs_par3 (i j l : Nat) {x y z : Str} {a b c : Expr} {m : MA} {px py pz pt pos : Pos} {kt k2 pt2} (hN : X.N.Nodup) (ha : XA X [a, b, c] m) (hfi : fx i = false := by rfl) (hfj : fx j = false := by rfl) (hfl : fx l = false := by rfl) (hc : X.calm = true := by rfl) (hi : X.N[i]? = some x := by rfl) (hj : X.N[j]? = some y := by rfl) (hl : X.N[l]? = some z := by rfl) (hij : i ≠ j := by decide) (hil : i ≠ l := by decide) (hjl : j ≠ l := by decide) (hx : X.env.scope.names.lookup x = some .local := by rfl) (hy : X.env.scope.names.lookup y = some .local := by rfl) (hz : X.env.scope.names.lookup z = some .local := by rfl)
    (hw : swappedStores [.Tuple [.Name x px, .Name y py, .Name z pz] kt pt] (.Tuple [a, b, c] k2 pt2) X.env = pure (some [x, y, z]) := by rfl) (hs : swapsWithSole [.Tuple [.Name x px, .Name y py, .Name z pz] kt pt] (.Tuple [a, b, c] k2 pt2) pos.line X.env = pure false := by rfl) : XS X fx (.Assign [.Tuple [.Name x px, .Name y py, .Name z pz] kt pt] (.Tuple [a, b, c] k2 pt2) pos) (mPar3 i j l m) :=
  PS.mono (ps_par3 hc hN hi hj hl hij hil hjl hx hy hz ha hw hs) fun _ _ _ h => ts_par3 hfi hfj hfl h
end
end Z
namespace Z
open PySem PySem.Spec L2
section
variable {K : PySem.W.Frag} {mg : Str → Option Value} {f f1 f2 g1 g2 : List Addr} {G H G1 H1 G2 H2 : Hp} {σ : L2.St} {ds ds1 ds2 : DS} {vs ws : List V} {es es2 : List D} {x y : V} {d e : D} {X : Cx} {Q : VK} {fx : Nat → Bool} {E : Ends}
/-! ### enumerate -/
def enumD : Nat → List D → List D
  | _, [] => []
  | k, e :: es => .tup [.v (.int (k : Nat)), e] :: enumD (k + 1) es
theorem enumD_len : ∀ {k : Nat} {es : List D}, (enumD k es).length = es.length := by
  intro k es
  induction es generalizing k with
  | nil => rfl
  | cons e es ih => simp [enumD, ih]
theorem enumD_get : ∀ {k : Nat} {es : List D} {i : Nat}, (enumD k es)[i]? = (es[i]?).map fun e => .tup [.v (.int ((k + i : Nat) : Nat)), e] := by
  intro k es
  induction es generalizing k with
  | nil => intro i; simp [enumD]
  | cons e es ih =>
    intro i
    cases i with
    | zero => simp [enumD]
    | succ i => simp only [enumD, List.getElem?_cons_succ, ih]; congr 1; funext z; congr 4; omega
theorem f_nil {f' : List Addr} (s : ∀ p ∈ f', p ∈ ([] : List Addr)) : f' = [] := by
  cases f' with
  | nil => rfl
  | cons p r => exact absurd (s p (by simp)) (by simp)
theorem itd_enum {a : Addr} {xs : List V} (h : SqL K G a xs) (o : ∀ G' H', Same G G' → Owns K mg G' H' xs es []) : ItD K mg (Ite K a) (enumD 0 es) G := by
  intro G' H' g gh
  have hs : SqL K H' a xs := sqL_mono gh (sqL_mono g h)
  have hl := (o G' H' g).length
  refine ⟨fun i hi => ⟨xs, hs, by rw [enumD_len] at hi; omega⟩, fun i d hd => ?_⟩
  rw [enumD_get] at hd
  cases he : es[i]? with
  | none => rw [he] at hd; cases hd
  | some e =>
    rw [he] at hd; cases hd
    obtain ⟨v, f', e1, e2, s1, _⟩ := (o G' H' g).item he
    have := f_nil s1
    subst this
    refine ⟨⟨xs, v, hs, e1⟩, fun x H'' hy => ?_⟩
    obtain ⟨T, w, rfl, hT, rfl, hw⟩ := hy
    have := hw xs hs
    rw [e1] at this; cases this
    refine ⟨upd G' T (.tup [.int (i : Nat), v]), Ext.newK gh hT, ?_⟩
    have w2 : Owns K mg (upd G' T (.tup [.int (i : Nat), v])) (upd H' T (.tup [.int (i : Nat), v])) [.int (i : Nat), v] [.v (.int (i : Nat)), e] [] := .v (e2.freshK gh hT)
    simpa using Owns.tup upd_same w2 .nil
def mEnum (m : MA) : MA := fun ds => match m ds with
  | some ([.lst _ es], ds1) => if cleans (fzs es) then some (enumD 0 (fzs es), ds1) else none
  | _ => none
theorem ti_enum {m : MA} {R : It → Hp → Prop} (h : ti K mg (mEnum m) σ H R) : iEnum K (ta K mg m) σ H R := by
  obtain ⟨G, ds, f, items, ds', g, o, n, e, k⟩ := h
  unfold mEnum at e
  split at e
  · rename_i oo es ds1 e1
    split at e
    · rename_i c
      cases e
      refine ⟨G, ds, f, _, _, g, o, n, e1, fun vs G1 H1 p1 => ?_⟩
      obtain ⟨f1, f2, x1, o1, q1, n1⟩ := p1
      obtain ⟨G', p', g', k', gh'⟩ := Pst.freeze x1 o1 q1 n1
      cases vs with
      | nil => cases q1
      | cons v vs =>
        obtain ⟨h1, h2, rfl, q1, q2⟩ := q1.cons_inv
        cases q2
        obtain ⟨a, xs, f', rfl, hs, w, s1, hG⟩ := q1.lst_inv2 x1.gh
        have hs' := hG G' g' fun p hp => k' p (by simpa using hp)
        exact ⟨a, xs, rfl, sqL_mono gh' hs', k _ G' H1 p' (itd_enum hs' fun G2 H2 g2 => w.freeze c (g'.trans g2) fun p hp u e => g2 p u (k' p (by simpa using s1 p hp) u e))⟩
    · cases e
  · cases e
theorem xi_enum {elts : List Expr} {kk : Nat} {p pos tpos : Pos} {a : Expr} {m : ME} (hm : X.mg "enumerate" = none) (ha : XE X a m) (hg : Gl X "enumerate" := by rfl) (hs0 : starEach [a] X.env = (false, eval a X.env) :: starEach [] X.env := by rfl) (hs : starEach [a] X.env = [(false, eval a X.env)] := by rfl) : XI X (.Tuple elts kk tpos) (.Call (.Name "enumerate" p) [a] [] pos) (mEnum (mCons m mNil)) :=
  PI.mono (pi_enum hg hm (xa_cons ha xa_nil hs0) hs) fun _ _ _ q => ti_enum q
/-! ### zip -/
def zipD (es fs : List D) : List D := List.zipWith (fun d e => .tup [d, e]) es fs
theorem itd_zip {a b : Addr} {xs ys : List V} (h : SqL K G a xs) (o : ∀ G' H', Same G G' → Owns K mg G' H' xs es []) (h2 : SqL K G b ys) (o2 : ∀ G' H', Same G G' → Owns K mg G' H' ys es2 []) : ItD K mg (Itz K a b) (zipD es es2) G := by
  intro G' H' g gh
  have hs : SqL K H' a xs := sqL_mono gh (sqL_mono g h)
  have hs2 : SqL K H' b ys := sqL_mono gh (sqL_mono g h2)
  have hl := (o G' H' g).length
  have hl2 := (o2 G' H' g).length
  refine ⟨fun i hi => ⟨xs, ys, hs, hs2, by simp [zipD] at hi; omega⟩, fun i d hd => ?_⟩
  unfold zipD at hd
  rw [List.getElem?_zipWith] at hd
  cases he : es[i]? with
  | none => rw [he] at hd; cases hd
  | some e =>
    cases he2 : es2[i]? with
    | none => rw [he, he2] at hd; cases hd
    | some e' =>
      rw [he, he2] at hd; cases hd
      obtain ⟨v, f', e1, w1, s1, _⟩ := (o G' H' g).item he
      obtain ⟨v2, f2', e2, w2, s2, _⟩ := (o2 G' H' g).item he2
      have := f_nil s1
      subst this
      have := f_nil s2
      subst this
      refine ⟨⟨xs, ys, v, v2, hs, hs2, e1, e2⟩, fun x H'' hy => ?_⟩
      obtain ⟨T, w, u, rfl, hT, rfl, hw, hu⟩ := hy
      have := hw xs hs
      rw [e1] at this; cases this
      have := hu ys hs2
      rw [e2] at this; cases this
      refine ⟨upd G' T (.tup [v, v2]), Ext.newK gh hT, ?_⟩
      have w3 : Owns K mg (upd G' T (.tup [v, v2])) (upd H' T (.tup [v, v2])) [v, v2] [e, e'] [] := by simpa using (w1.append w2).freshK gh hT
      simpa using Owns.tup upd_same w3 .nil
def mZip (m : MA) : MA := fun ds => match m ds with
  | some ([.lst _ es, .lst _ es2], ds1) => if cleans (fzs es) && cleans (fzs es2) then some (zipD (fzs es) (fzs es2), ds1) else none
  | _ => none
theorem ti_zip {m : MA} {R : It → Hp → Prop} (h : ti K mg (mZip m) σ H R) : iZip K (ta K mg m) σ H R := by
  obtain ⟨G, ds, f, items, ds', g, o, n, e, k⟩ := h
  unfold mZip at e
  split at e
  · rename_i o1 es o2 es2 ds1 e1
    split at e
    · rename_i c
      rw [Bool.and_eq_true] at c
      cases e
      refine ⟨G, ds, f, _, _, g, o, n, e1, fun vs G1 H1 p1 => ?_⟩
      obtain ⟨f1, f2, x1, o1, q1, n1⟩ := p1
      obtain ⟨G', p', g', k', gh'⟩ := Pst.freeze x1 o1 q1 n1
      have hl := q1.length
      match vs, hl with
      | [v, v2], _ =>
        obtain ⟨h1, h2, rfl, q1, q2⟩ := q1.two
        obtain ⟨a, xs, f', rfl, hs, w, s1, hG⟩ := q1.lst_inv2 x1.gh
        obtain ⟨b, ys, f'', rfl, hs2, w2, s2, hG2⟩ := q2.lst_inv2 x1.gh
        have hs' := hG G' g' fun p hp => k' p (List.mem_append_left _ hp)
        have hs2' := hG2 G' g' fun p hp => k' p (List.mem_append_right _ hp)
        exact ⟨a, b, xs, ys, rfl, sqL_mono gh' hs', sqL_mono gh' hs2', k _ G' H1 p' (itd_zip hs' (fun G2 H2 g2 => w.freeze c.1 (g'.trans g2) fun p hp u e => g2 p u (k' p (List.mem_append_left _ (s1 p hp)) u e)) hs2' fun G2 H2 g2 => w2.freeze c.2 (g'.trans g2) fun p hp u e => g2 p u (k' p (List.mem_append_right _ (s2 p hp)) u e))⟩
    · cases e
  · cases e
theorem xi_zip {elts : List Expr} {kk : Nat} {p pos tpos : Pos} {a b : Expr} {m mb : ME} (hm : X.mg "zip" = none) (ha : XE X a m) (hb : XE X b mb) (hg : Gl X "zip" := by rfl) (hs0 : starEach [a, b] X.env = (false, eval a X.env) :: starEach [b] X.env := by rfl) (hs1 : starEach [b] X.env = (false, eval b X.env) :: starEach [] X.env := by rfl) (hpl : (backTo pos (starEach [b] X.env)).any (·.1) = false := by rfl) : XI X (.Tuple elts kk tpos) (.Call (.Name "zip" p) [a, b] [] pos) (mZip (mCons m (mCons mb mNil))) :=
  PI.mono (pi_zip hg hm (xa_cons ha (xa_cons hb xa_nil hs1) hs0) hs0 hpl) fun _ _ _ q => ti_zip q
/-! ### the signs of a text -/
def itemsS : D → Option (List D)
  | .v (.str s) => some (s.cps.toList.map fun c => .v (.str ⟨#[c]⟩))
  | _ => none
theorem itd_str {s : Str} : ItD K mg (Its s) (s.cps.toList.map fun c => .v (.str ⟨#[c]⟩)) G := by
  intro G' H' g gh
  refine ⟨fun i hi => show s.cps.size ≤ i by simpa using hi, fun i d hd => ?_⟩
  rw [List.getElem?_map] at hd
  cases hr : s.cps.toList[i]? with
  | none => rw [hr] at hd; cases hd
  | some c =>
    rw [hr] at hd; cases hd
    obtain ⟨hi, e⟩ := List.getElem?_eq_some_iff.mp hr
    refine ⟨show i < s.cps.size by simpa using hi, fun x H'' hy => ?_⟩
    obtain ⟨rfl, c', hc, rfl⟩ := hy
    rw [Array.getElem?_toList] at hr
    rw [hc] at hr; cases hr
    exact ⟨G', Ext.refl gh [], .v .nil⟩
theorem ti_str {m : ME} {R : It → Hp → Prop} (h : ti K mg (mIt itemsS m) σ H R) : iStr (tm K mg m) σ H R := by
  obtain ⟨G, ds, f, items, ds', g, o, n, e, k⟩ := h
  unfold mIt at e
  split at e
  · rename_i d ds1 e1
    split at e
    · rename_i es e2
      cases e
      refine ⟨G, ds, f, d, _, g, o, n, e1, fun v G1 H1 p1 => ?_⟩
      obtain ⟨f1, f2, x1, o1, q1, n1⟩ := p1
      unfold itemsS at e2
      split at e2
      · cases e2
        obtain ⟨rfl, rfl⟩ := q1.v_inv
        exact ⟨_, rfl, k _ G1 H1 ⟨f1, [], x1, o1, .nil, n1⟩ itd_str⟩
      · cases e2
    · cases e
  · cases e
theorem xi_str {tg e : Expr} {m : ME} (h : XE X e m) : XI X tg e (mIt itemsS m) := PI.mono (pi_str h) fun _ _ _ q => ti_str q
/-! ### range(a, b, c) -/
def mRng3 (m : MA) : MA := fun ds => match m ds with
  | some ([.v (.int i), .v (.int j), .v (.int c)], ds1) => if c ≠ 0 ∧ c.natAbs < 1073741824 ∧ -1000000000 < i ∧ i < 1000000000 ∧ -1000000000 < j ∧ j < 1000000000 ∧ Builtin.Range.small i j c = true then some ((List.range (Builtin.Range.rangeSize i j c).toNat).map fun (k : Nat) => .v (.int (i + (k : Int) * c)), ds1) else none
  | _ => none
theorem itd_rangeC {lo c : Int} {n : Nat} : ItD K mg (Itc lo c n) ((List.range n).map fun (k : Nat) => .v (.int (lo + (k : Int) * c))) G := by
  intro G' H' g gh
  refine ⟨fun i hi => show n ≤ i by simpa using hi, fun i d hd => ?_⟩
  rw [List.getElem?_map] at hd
  cases hr : (List.range n)[i]? with
  | none => rw [hr] at hd; cases hd
  | some j =>
    rw [hr] at hd; cases hd
    obtain ⟨hi, e⟩ := List.getElem?_eq_some_iff.mp hr
    have hi' : i < n := by simpa using hi
    have : j = i := by simpa using e.symm
    subst this
    refine ⟨hi', fun x H'' hy => ?_⟩
    obtain ⟨rfl, rfl⟩ := hy
    exact ⟨G', Ext.refl gh [], .v .nil⟩
/-! ### x.index(e), x a name that holds a list -/
def eqsAt : List V → V → Option Nat
  | [], _ => none
  | z :: zs, y => if eqV z y then some 0 else (eqsAt zs y).map (· + 1)
theorem eqsAt_ok : ∀ {xs : List V} {y : V} {j : Nat}, eqsAt xs y = some j → (∃ z, xs[j]? = some z ∧ eqV z y = true) ∧ ∀ (m : Nat) (z' : V), m < j → xs[m]? = some z' → eqV z' y = false := by
  intro xs
  induction xs with
  | nil => intro y j h; cases h
  | cons z zs ih =>
    intro y j h
    unfold eqsAt at h
    split at h
    · rename_i c
      cases h
      exact ⟨⟨z, rfl, c⟩, fun m z' hm => by omega⟩
    · rename_i c
      cases hh : eqsAt zs y with
      | none => rw [hh] at h; cases h
      | some i =>
        rw [hh] at h; cases h
        obtain ⟨⟨z1, a, b⟩, k⟩ := ih hh
        refine ⟨⟨z1, by simpa using a, b⟩, fun m z' hm hz => ?_⟩
        have hm : m < i + 1 := hm
        cases m with
        | zero => simp at hz; subst hz; simpa using c
        | succ m => exact k m z' (by omega) (by simpa using hz)
def ixOf : Option V → Option (List V) → Option D
  | some y, some ys => match eqsAt ys y with
    | some j => some (.v (.int (j : Nat)))
    | none => none
  | _, _ => none
def dIndex (d e : D) : Option D := match d with
  | .lst _ es => ixOf (flatD e) (flatsD es)
  | _ => none
theorem lookd_index : LookD K mg (fun x y H Q => rIndex K x [y] H Q) dIndex := by
  intro G H x y d e d' f Q gh h1 h2 q c k
  unfold dIndex at q
  split at q
  · cases e1 : flatD e with
    | none => rw [e1] at q; cases q
    | some y0 =>
      rename_i oo es
      cases e2 : flatsD es with
      | none => rw [e1, e2] at q; cases q
      | some ys0 =>
        rw [e1, e2] at q
        cases hj : eqsAt ys0 y0 with
        | none => simp only [ixOf, hj] at q; cases q
        | some j =>
          simp only [ixOf, hj] at q
          cases q
          obtain ⟨a, xs, f', rfl, hs, w, _, _⟩ := h1.lst_inv gh
          obtain ⟨rfl, hf, _⟩ := flat_own h2 e1
          obtain ⟨rfl, hfs⟩ := flats_own w e2
          obtain ⟨⟨z, z1, z2⟩, no⟩ := eqsAt_ok hj
          exact ⟨a, _, _, j, z, rfl, rfl, hs, hf, hfs, z1, z2, no, k _ G H (Ext.refl gh []) (.v .nil)⟩
  · cases q
def mLookL (i : Nat) (g : D → D → Option D) (mb : ME) : ME := fun ds => match ds[i]? with
  | some (some (.lst _ _)) => mLook i g mb ds
  | _ => none
theorem tm_lookL {i : Nat} {r : V → List V → Hp → VK → Prop} {g : D → D → Option D} {mb : ME} (hg : LookD K mg (fun x y H Q => r x [y] H Q) g) (h : tm K mg (mLookL i g mb) σ H Q) : tBM K "list" r (tVar i) (tCons (tm K mg mb) tNil) σ H Q := by
  obtain ⟨G, ds, f, d, ds', gh, o, n, e, k⟩ := h
  unfold mLookL at e
  split at e
  · rename_i oo es h0
    obtain ⟨v, _, _, _, rfl, hv, ho0, _⟩ := o.split h0
    obtain ⟨a0, xs0, _, rfl, eH0, _, _, _⟩ := ho0.lst_inv gh
    obtain ⟨v', hv', t⟩ := tm_look (K := K) (mg := mg) (σ := σ) (H := H) (Q := Q) hg ⟨G, ds, _, d, ds', gh, o, n, e, k⟩
    rw [hv] at hv'; cases hv'
    exact ⟨_, hv, .inl ⟨rfl, xs0, eH0⟩, t⟩
  · cases e
theorem xe_index (i : Nat) {nm : Str} {p apos cpos : Pos} {e : Expr} {me : ME} (he : XE X e me) (hN : X.N[i]? = some nm := by rfl) (hv : Vis X.env.scope nm := by first | exact Or.inl rfl | exact Or.inr (Or.inl rfl) | exact Or.inr (Or.inr rfl)) (hd : (nm == ("__debug__" : Str)) = false := by decide) (hcd : (nm == ("__classdict__" : Str)) = false := by decide)
    (hse : starEach [e] X.env = (false, eval e X.env) :: starEach [] X.env := by rfl)
    (hbase : attributeBase (.Name nm p) "index" X.env (eval (.Name nm p) X.env) = eval (.Name nm p) X.env := by rfl) (hfew : ((backTo cpos (starEach [e] X.env)).all (fun x => !x.1) && (backToKw cpos (keywordEach [] X.env)).all (fun x => x.1.isSome) && decide (([e] : List Expr).length + ([] : List Keyword).length + (if ([] : List Keyword).isEmpty then 0 else 1) < 30)) = true := by rfl) (hline : (apos.endLine == cpos.line) = true := by rfl) (hplain : (backTo cpos (starEach [] X.env)).any (·.1) = false := by rfl) : XE X (.Call (.Attribute (.Name nm p) "index" apos) [e] [] cpos) (mLookL i dIndex me) :=
  PE.mono (pe_bm PySem.F.plainAttrs_list PySem.F.slot_list_index PySem.F.type_list_index mt_index (pe_var hN hv hd hcd) (pa_cons he pa_nil hse) hbase hfew hline hse hplain) fun _ _ _ h => tm_lookL lookd_index h
end
end Z
namespace Z
open PySem PySem.Spec L2
section
variable {K : PySem.W.Frag} {mg : Str → Option Value} {f f1 f2 g1 g2 : List Addr} {G H G1 H1 G2 H2 : Hp} {σ : L2.St} {ds ds1 ds2 : DS} {vs ws : List V} {es es2 : List D} {x y : V} {d e : D} {X : Cx} {Q : VK} {fx : Nat → Bool} {E : Ends}
/-! ### methods of texts -/
def MthD (K : PySem.W.Frag) (mg : Str → Option Value) (r : V → List V → Hp → VK → Prop) (g : Str → List D → Option D) : Prop := ∀ (G H : Hp) (a : Str) (xs : List V) (es : List D) (d' : D) (f : List Addr) (Q : VK), Same G H → Owns K mg G H xs es f → f.Nodup → g a es = some d' →
  (∀ v G' H', VPst K mg f G H [v] [d'] G' H' → Q v H') → r (.str a) xs H Q
def mMt (g : Str → List D → Option D) (m : ME) (r : MA) : ME := fun ds => match m ds with
  | some (.v (.str a), ds1) => match r ds1 with
    | some (es, ds2) => match g a es with
      | some d => some (d, ds2)
      | none => none
    | none => none
  | _ => none
theorem tm_mt {r : V → List V → Hp → VK → Prop} {g : Str → List D → Option D} {m : ME} {mr : MA} (hg : MthD K mg r g) (h : tm K mg (mMt g m mr) σ H Q) : tBM K "str" r (tm K mg m) (ta K mg mr) σ H Q := by
  obtain ⟨G, ds, f, d, ds', gh, o, n, e, k⟩ := h
  unfold mMt at e
  split at e
  · rename_i a ds1 e1
    split at e
    · rename_i es ds2 e2
      split at e
      · rename_i d1 e3
        cases e
        refine ⟨G, ds, f, _, ds1, gh, o, n, e1, fun v G1 H1 p1 => ?_⟩
        obtain ⟨f1, f2, x1, o1, q1, n1⟩ := p1
        obtain ⟨rfl, rfl⟩ := q1.v_inv
        refine ⟨rfl, G1, ds1, f1, _, _, x1.gh, o1, (List.nodup_append.mp n1).1, e2, fun vs G2 H2 p2 => ?_⟩
        obtain ⟨f3, f4, x2, o2, q2, n2⟩ := Pst.nil_trans x1 p2
        exact hg G2 H2 a vs es _ f4 Q x2.gh q2 (List.nodup_append.mp n2).2.1 e3 fun v G3 H3 p3 => k v G3 H3 (Pst.map x2 o2 n2 p3)
      · cases e
    · cases e
  · cases e
def strsD : List D → Option (List Str)
  | [] => some []
  | .v (.str s) :: r => match strsD r with
    | some t => some (s :: t)
    | none => none
  | _ => none
theorem strs_own : ∀ {es : List D} {vs : List V} {f : List Addr} {s : List Str}, Owns K mg G H vs es f → strsD es = some s → vs = s.map V.str := by
  intro es
  induction es with
  | nil =>
    intro vs f s h e
    cases e
    have := h.length
    have : vs = [] := List.eq_nil_of_length_eq_zero this
    subst this
    rfl
  | cons d es ih =>
    intro vs f s h e
    cases vs with
    | nil => cases h
    | cons v vs =>
      obtain ⟨f1, f2, rfl, h1, h2⟩ := h.cons_inv
      unfold strsD at e
      split at e
      · rename_i hh; cases hh
      · rename_i i r hh
        cases hh
        split at e
        · rename_i s' e'
          cases e
          have := ih h2 e'
          subst this
          obtain ⟨rfl, rfl⟩ := h1.v_inv
          rfl
        · cases e
      · cases e
def dJoin (a : Str) : List D → Option D
  | [.lst _ es] => match strsD es with
    | some ys => if (ys.map (·.length)).sum + ys.length * a.length ≤ 16777216 then some (.v (.str (Txt.join a ys))) else none
    | none => none
  | _ => none
theorem mthd_join : MthD K mg (fun x xs H Q => ∃ a p, ∃ ys : List Str, x = .str a ∧ xs = [.ref p] ∧ (SqL K H p (ys.map V.str) ∨ SqT K H p (ys.map V.str)) ∧ (ys.map (·.length)).sum + ys.length * a.length ≤ 16777216 ∧ Q (.str (Txt.join a ys)) H) dJoin := by
  intro G H a xs es d' f Q gh h n e k
  unfold dJoin at e
  split at e
  · split at e
    · rename_i ys e1
      split at e
      · rename_i c
        cases e
        cases xs with
        | nil => cases h
        | cons x xs =>
          obtain ⟨f1, f2, rfl, h1, h2⟩ := h.cons_inv
          cases h2
          obtain ⟨p, vs, f', rfl, hs, w, _, _⟩ := h1.lst_inv gh
          have := strs_own w e1
          subst this
          exact ⟨a, p, ys, rfl, rfl, .inl hs, c, k _ G H (VPst.val gh)⟩
      · cases e
    · cases e
  · cases e
theorem xe_join {o e : Expr} {apos cpos : Pos} {m me : ME} (ho : XE X o m) (he : XE X e me)
    (hse : starEach [e] X.env = (false, eval e X.env) :: starEach [] X.env := by rfl)
    (hbase : attributeBase o "join" X.env (eval o X.env) = eval o X.env := by rfl) (hfew : ((backTo cpos (starEach [e] X.env)).all (fun x => !x.1) && (backToKw cpos (keywordEach [] X.env)).all (fun x => x.1.isSome) && decide (([e] : List Expr).length + ([] : List Keyword).length + (if ([] : List Keyword).isEmpty then 0 else 1) < 30)) = true := by rfl) (hline : (apos.endLine == cpos.line) = true := by rfl) (hplain : (backTo cpos (starEach [] X.env)).any (·.1) = false := by rfl) : XE X (.Call (.Attribute o "join" apos) [e] [] cpos) (mMt dJoin m (mCons me mNil)) :=
  PE.mono (pe_bm PySem.F.plainAttrs_str PySem.F.slot_str_join PySem.F.type_str_join mt_join ho (xa_cons he xa_nil hse) hbase hfew hline hse hplain) fun _ _ _ h => tm_mt mthd_join h
end
end Z
namespace Z
open PySem PySem.Spec L2
section
variable {K : PySem.W.Frag} {mg : Str → Option Value} {f f1 f2 g1 g2 : List Addr} {G H G1 H1 G2 H2 : Hp} {σ : L2.St} {ds ds1 ds2 : DS} {vs ws : List V} {es es2 : List D} {x y : V} {d e : D} {X : Cx} {Q : VK} {fx : Nat → Bool} {E : Ends}
/-! ### what slot i holds is frozen, and nothing else is done -/
def fzAt (i : Nat) (ds : DS) : DS := match ds[i]? with
  | some (some d) => if clean (fz d) then ds.set i (some (fz d)) else ds
  | _ => ds
theorem fzAt_ok (g : Same G H) (o : OwnS K mg G H σ ds f) (n : f.Nodup) (i : Nat) : ∃ G' f', Ext f G H f' G' H ∧ OwnS K mg G' H σ (fzAt i ds) f' ∧ f'.Nodup := by
  unfold fzAt
  split
  · rename_i d0 hi
    split
    · rename_i hz
      obtain ⟨v, fa, fb, fc, rfl, hv, ho, kk⟩ := o.split hi
      have hh := o.here
      have hb : ∀ a ∈ fb, (∃ o, H a = some o) ∧ G a = none := fun a h => hh a (by simp [h])
      let G' : Hp := fun a => if a ∈ fb then H a else G a
      have gG : Same G G' := fun b u e => by
        show (if b ∈ fb then H b else G b) = some u
        rw [if_neg (fun h => by have := (hb b h).2; rw [this] at e; cases e)]; exact e
      have gH : Same G' H := fun b u e => by
        by_cases h : b ∈ fb
        · have : G' b = H b := if_pos h
          rw [this] at e; exact e
        · have : G' b = G b := if_neg h
          rw [this] at e; exact g b u e
      have hk : ∀ a ∈ fb, ∀ u, H a = some u → G' a = some u := fun a h u e => by show (if a ∈ fb then H a else G a) = some u; rw [if_pos h]; exact e
      have hfz : Owns K mg G' H [v] [fz d0] [] := ho.freeze (clean_sing hz) gG hk
      have hn : ∀ a, a ∉ fb → G a = none → G' a = none := fun a h e => by show (if a ∈ fb then H a else G a) = none; rw [if_neg h]; exact e
      have nd1 : ∀ a, a ∈ fa ∨ a ∈ fc → a ∉ fb := by
        intro a ha hb
        simp only [List.nodup_append, List.mem_append] at n
        rcases ha with ha | ha
        · exact n.1.2.2 a ha a hb rfl
        · exact n.2.2 a (.inr hb) a ha rfl
      obtain ⟨_, k2⟩ := kk G' H gG fun a ha => ⟨fun o e => e, hn a (nd1 a ha) (hh a (by rcases ha with h | h <;> simp [h])).2⟩
      have ex : Ext (fa ++ fb ++ fc) G H (fa ++ fc) G' H := ⟨gH, gG, fun _ _ e _ => e, fun p hp => .inl (by simp only [List.mem_append] at hp ⊢; rcases hp with h | h <;> simp [h]), fun p u e q _ => hn p (fun h => q (by simp [h])) e⟩
      refine ⟨G', fa ++ fc, ex, by simpa using k2 _ _ hfz, ?_⟩
      simp only [List.nodup_append, List.mem_append] at n ⊢
      exact ⟨n.1.1, n.2.1, fun a ha b hb => n.2.2 a (.inl ha) b hb⟩
    · exact ⟨G, f, Ext.refl g f, o, n⟩
  · exact ⟨G, f, Ext.refl g f, o, n⟩
theorem tm_fz {i : Nat} {m : ME} (h : tm K mg (fun ds => m (fzAt i ds)) σ H Q) : tm K mg m σ H Q := by
  obtain ⟨G, ds, f, d, ds', g, o, n, e, k⟩ := h
  obtain ⟨G', f', x, o', n'⟩ := fzAt_ok g o n i
  exact ⟨G', _, f', d, ds', x.gh, o', n', e, fun v G3 H3 p => k v G3 H3 (Pst.nil_trans (by simpa using x) p)⟩
/-- as m, else as m with slot i frozen -/
def orFz (i : Nat) (m : ME) : ME := fun ds => match m ds with
  | some r => some r
  | none => m (fzAt i ds)
theorem tm_orFz {i : Nat} {m : ME} (h : tm K mg (orFz i m) σ H Q) : tm K mg m σ H Q := by
  obtain ⟨G, ds, f, d, ds', g, o, n, e, k⟩ := h
  unfold orFz at e
  split at e
  · rename_i r e1
    cases e
    exact ⟨G, ds, f, _, _, g, o, n, e1, k⟩
  · exact tm_fz (i := i) ⟨G, ds, f, d, ds', g, o, n, e, k⟩
theorem xe_orFz (i : Nat) {e : Expr} {m : ME} (h : XE X e m) : XE X e (orFz i m) := PE.mono h fun _ _ _ q => tm_orFz q
/-! ### d[k], d any expression that tells a dict -/
theorem opd_kx : OpD K mg rDx dKx := by
  intro G H x y d e d' f Q gh h n q k
  unfold dKx at q
  split at q
  · split at q
    · rename_i kk hk
      obtain ⟨f1, f2, rfl, h1, h2⟩ := h.two
      obtain ⟨rfl, rfl⟩ := dKey_own h2 hk
      obtain ⟨a, kvs, f', rfl, e1, rfl, w, s1, m1⟩ := h1.dic_inv gh
      obtain ⟨v, f3, hv, w3, s3, m3⟩ := w.getS q
      have nn := (List.nodup_append.mp n).1
      exact ⟨a, v, rfl, .inl ⟨kvs, kk, .inl e1, rfl, hv.symm⟩, k _ G H (VPst.same gh w3 (fun p hp => by simpa using s1 p (s3 p hp)) (m3 (m1 nn)))⟩
    · cases q
  · cases q
theorem xe_ixd {a b : Expr} {pos : Pos} {ma mb : ME} (hu : X.A.units + 65 < cLine) (ha : XE X a ma) (hb : XE X b mb) (hs : NoSl b := by intro _ _; rfl) : XE X (.Subscript a b pos) (mOp dKx ma mb) := PE.mono (pe_dget (by omega) ha hb hs) fun _ _ _ h => (tm_op (r := rDx) opd_kx h)
/-! ### a value that is frozen at once -/
def mFrz (m : ME) : ME := fun ds => match m ds with
  | some (d, ds1) => if clean (fz d) then some (fz d, ds1) else none
  | none => none
theorem tm_frz {m : ME} (h : tm K mg (mFrz m) σ H Q) : tm K mg m σ H Q := by
  obtain ⟨G, ds, f, d, ds', g, o, n, e, k⟩ := h
  unfold mFrz at e
  split at e
  · rename_i d1 ds1 e1
    split at e
    · rename_i c
      cases e
      refine ⟨G, ds, f, d1, _, g, o, n, e1, fun v G1 H1 p => ?_⟩
      obtain ⟨f1, f2, x1, o1, q1, n1⟩ := p
      obtain ⟨G', p', g', k', gh'⟩ := Pst.freeze x1 o1 q1 n1
      obtain ⟨f3, f4, x3, o3, q3, n3⟩ := p'
      cases q3
      exact k v G' H1 ⟨f3, [], x3, o3, q1.freeze (clean_sing c) g' k', n3⟩
    · cases e
  · cases e
theorem xe_frz {e : Expr} {m : ME} (h : XE X e m) : XE X e (mFrz m) := PE.mono h fun _ _ _ q => tm_frz q
/-! ### a def that calls itself: a promise for each depth -/
theorem fn_none {P : Program} {w : World} {base : Heap} {CX : CXT} {k np : Nat} {f : Addr} {fd : FuncData} {ps : List Str} (hl : ps.length = np) : FnOk P w K mg base CX k f fd ps (spF K mg np fun _ => none) :=
  ⟨fun vs H Q E h => h.1.trans hl.symm, fun A outer s H args us vs Q E _ _ _ _ hs => by
    obtain ⟨_, G, as, f, d, os, _, _, _, e, _⟩ := hs
    cases e⟩
end
end Z
namespace Z
open PySem PySem.Spec L2
section
variable {K : PySem.W.Frag} {mg : Str → Option Value} {f f1 f2 g1 g2 : List Addr} {G H G1 H1 G2 H2 : Hp} {σ : L2.St} {ds ds1 ds2 : DS} {vs ws : List V} {es es2 : List D} {x y : V} {d e : D} {X : Cx} {Q : VK} {fx : Nat → Bool} {E : Ends}
/-! ### dicts that change -/
theorem Owns.ownD_inv {ks : List Key} (h : Owns K mg G H [x] [.dic .own ks es] f) : ∃ a kvs f', x = .ref a ∧ H a = some (.dK kvs) ∧ G a = none ∧ kvs.map (·.1) = ks ∧ Owns K mg G H (kvs.map (·.2)) es f' ∧ f = a :: f' := by
  cases h with
  | od e n e2 a b => cases b; exact ⟨_, _, _, rfl, e, n, e2, a, by simp⟩
theorem Pst.mutD {i : Nat} {ks : List Key} (x2 : Ext f G H (g1 ++ g2) G2 H2) (o2 : OwnS K mg G2 H2 σ ds1 g1) (q2 : Owns K mg G2 H2 ws es2 g2) (n2 : (g1 ++ g2).Nodup) (h2 : ds1[i]? = some (some (.dic .own ks es))) :
    ∃ a kvs f', σ[i]? = some (some (.ref a)) ∧ H2 a = some (.dK kvs) ∧ kvs.map (·.1) = ks ∧ Owns K mg G2 H2 (kvs.map (·.2)) es f' ∧ (f' ++ g2).Nodup ∧
      ∀ {kvs' : List (Key × V)} {ks' : List Key} {es' : List D} {f'' : List Addr} {vs3 : List V} {es3 : List D} {f3 : List Addr}, kvs'.map (·.1) = ks' → Owns K mg G2 H2 (kvs'.map (·.2)) es' f'' → Owns K mg G2 H2 vs3 es3 f3 → (f'' ++ f3).Nodup → (∀ p ∈ f'' ++ f3, p ∈ f' ++ g2) → Pst K mg f G H σ (ds1.set i (some (.dic .own ks' es'))) vs3 es3 G2 (upd H2 a (.dK kvs')) := by
  obtain ⟨v', fa, fb, fc, rfl, hv', ho, kk2⟩ := o2.split h2
  obtain ⟨a, kvs, f', rfl, eH, eG, ek, w, rfl⟩ := ho.ownD_inv
  refine ⟨a, kvs, f', hv', eH, ek, w, ?_, fun {kvs' ks' es' f'' vs3 es3 f3} ek' w' w3 n3 s3 => ?_⟩
  · simp only [List.nodup_append, List.mem_append, List.nodup_cons, List.mem_cons] at n2 ⊢
    exact ⟨n2.1.1.2.1.2, n2.2.1, fun p hp q hq z => n2.2.2 p (.inl (.inr (.inr hp))) q hq z⟩
  · have hd : ∀ p, p ∈ fa ∨ p ∈ fc ∨ p ∈ f' ∨ p ∈ g2 → p ≠ a := by
      intro p hp z
      subst z
      simp only [List.nodup_append, List.mem_append, List.nodup_cons, List.mem_cons] at n2
      rcases hp with hp | hp | hp | hp
      · exact n2.1.1.2.2 p hp p (.inl rfl) rfl
      · exact n2.1.2.2 p (.inr (.inl rfl)) p hp rfl
      · exact n2.1.1.2.1.1 hp
      · exact n2.2.2 p (.inl (.inr (.inl rfl))) p hp rfl
    have hd3 : ∀ p, p ∈ f'' ++ f3 → p ≠ a := fun p hp => hd p (by have := s3 p hp; simp only [List.mem_append] at this; rcases this with h | h <;> simp [h])
    have hk : ∀ p, p ≠ a → ∀ u, H2 p = some u → upd H2 a (.dK kvs') p = some u := fun p hp u e => by rw [upd_ne hp]; exact e
    have w4 : Owns K mg G2 (upd H2 a (.dK kvs')) (kvs'.map (·.2)) es' f'' := w'.frame (Same.refl G2) fun p hp => ⟨hk p (hd3 p (List.mem_append_left _ hp)), (w'.here p hp).2⟩
    have w5 : Owns K mg G2 (upd H2 a (.dK kvs')) vs3 es3 f3 := w3.frame (Same.refl G2) fun p hp => ⟨hk p (hd3 p (List.mem_append_right _ hp)), (w3.here p hp).2⟩
    have hgh : Same G2 (upd H2 a (.dK kvs')) := fun p u e => hk p (fun z => by subst z; rw [eG] at e; cases e) u (x2.gh p u e)
    obtain ⟨_, k2⟩ := kk2 G2 (upd H2 a (.dK kvs')) (Same.refl G2) fun p hp => ⟨hk p (hd p (by rcases hp with h | h <;> simp [h])), (o2.here p (by rcases hp with h | h <;> simp [h])).2⟩
    have o5 := k2 _ _ (Owns.od upd_same eG ek' w4 .nil)
    refine ⟨_, f3, ?_, o5, w5, ?_⟩
    · refine ⟨hgh, x2.gg, fun p u e hp => ?_, fun p hp => ?_, x2.gn⟩
      · refine hk p (fun z => ?_) u (x2.keep p u e hp)
        subst z
        rcases x2.fpn p (by simp) with h | h
        · exact hp h
        · rw [h] at e; cases e
      · refine x2.fpn p ?_
        simp only [List.mem_append, List.mem_cons, List.append_nil] at hp s3 ⊢
        rcases hp with ((h | h | h) | h) | h
        · simp [h]
        · simp [h]
        · rcases s3 p (.inl h) with h | h <;> simp [h]
        · simp [h]
        · rcases s3 p (.inr h) with h | h <;> simp [h]
    · simp only [List.nodup_append, List.mem_append, List.nodup_cons, List.mem_cons, List.append_nil] at n2 n3 s3 hd3 ⊢
      refine ⟨⟨⟨n2.1.1.1, ⟨fun h => hd3 a (.inl h) rfl, n3.1⟩, fun p hp q hq z => ?_⟩, n2.1.2.1, fun p hp q hq z => ?_⟩, n3.2.1, fun p hp q hq z => ?_⟩
      · rcases hq with hq | hq
        · exact hd p (.inl hp) (z.trans hq)
        · rcases s3 q (.inl hq) with h | h
          · exact n2.1.1.2.2 p hp q (.inr h) z
          · exact n2.2.2 p (.inl (.inl hp)) q h z
      · rcases hp with hp | hp | hp
        · exact n2.1.2.2 p (.inl hp) q hq z
        · exact hd q (.inr (.inl hq)) (z.symm.trans hp)
        · rcases s3 p (.inl hp) with h | h
          · exact n2.1.2.2 p (.inr (.inr h)) q hq z
          · exact n2.2.2 q (.inr hq) p h z.symm
      · rcases hp with (hp | hp | hp) | hp
        · rcases s3 q (.inr hq) with h | h
          · exact n2.1.1.2.2 p hp q (.inr h) z
          · exact n2.2.2 p (.inl (.inl hp)) q h z
        · exact hd3 q (.inr hq) (z.symm.trans hp)
        · exact n3.2.2 p hp q hq z
        · rcases s3 q (.inr hq) with h | h
          · exact n2.1.2.2 q (.inr (.inr h)) p hp z.symm
          · exact n2.2.2 p (.inr hp) q h z
/-- x[k] = v -/
def mPutK (i : Nat) (mi me : ME) : MS := fun ds => match me ds with
  | some (d, ds1) => match ds1[i]? with
    | some (some _) => match mi ds1 with
      | some (e, ds2) => match dKey e with
        | some k => match ds2[i]? with
          | some (some (.dic .own ks es)) => match putD ks es k d with
            | some (ks', es') => if ks.length < 10000000 then some (.nx (ds2.set i (some (.dic .own ks' es')))) else none
            | none => none
          | _ => none
        | none => none
      | none => none
    | _ => none
  | none => none
theorem ts_putK {i : Nat} {mi me : ME} (h : ts K mg fx (mPutK i mi me) E σ H) : sDPut (tVar i) (tm K mg mi) (tm K mg me) E σ H := by
  obtain ⟨G, ds, f, out, gh, o, n, e, k⟩ := h
  unfold mPutK at e
  split at e
  · rename_i d ds1 e1
    split at e
    · rename_i d9 h9
      split at e
      · rename_i e2 ds2 q2
        split at e
        · rename_i kk hk
          split at e
          · rename_i ks es h2
            split at e
            · rename_i ks' es' hp
              split at e
              · rename_i hsz
                cases e
                refine ⟨G, ds, f, _, _, gh, o, n, e1, fun v G1 H1 p1 => ?_⟩
                obtain ⟨f1, f2, x1, o1, w1, n1⟩ := p1
                obtain ⟨v', _, _, _, _, hv', _, _⟩ := o1.split h9
                refine ⟨v', hv', G1, ds1, f1, _, _, x1.gh, o1, (List.nodup_append.mp n1).1, q2, fun y G2 H2 p2 => ?_⟩
                obtain ⟨g1, g2, x2, o2, w2, n2⟩ := Pst.and x1 o1 w1 n1 p2
                obtain ⟨g3, g4, rfl, w3, w4⟩ := Owns.two (by simpa using w2)
                obtain ⟨rfl, rfl⟩ := dKey_own w4 hk
                obtain ⟨a, kvs, f', hva, eH, rfl, w, nn, fin⟩ := Pst.mutD x2 o2 w2 n2 h2
                rw [hv'] at hva; cases hva
                have nn2 : (f' ++ g3).Nodup := by simpa using nn
                obtain ⟨r1, f'', r2, r3, r4⟩ := Owns.put w w3 nn2 hp
                have hlen : kvs.length < sizeLine := by
                  rw [sizeLine_eq]; simp at hsz; omega
                exact ⟨a, _, rfl, .inl ⟨kvs, kk, eH, rfl, hlen, rfl⟩, k σ (FixS.refl _ _) G2 _ (fin r1 r2 .nil (by simpa using r3) (by intro p hp; simp only [List.append_nil] at hp ⊢; exact r4 p hp))⟩
              · cases e
            · cases e
          · cases e
        · cases e
      · cases e
    · cases e
  · cases e
theorem xs_putK (i : Nat) {nm : Str} {p : Pos} {b e : Expr} {pos pos' : Pos} {mi me : ME} (hu : X.A.units + 65 < cLine) (he : XE X e me) (hb : XE X b mi) (hN : X.N[i]? = some nm := by rfl) (hv : Vis X.env.scope nm := by first | exact Or.inl rfl | exact Or.inr (Or.inl rfl) | exact Or.inr (Or.inr rfl)) (hd : (nm == ("__debug__" : Str)) = false := by decide) (hcd : (nm == ("__classdict__" : Str)) = false := by decide)
    (hs : swapsWith e (some (.Subscript (.Name nm p) b pos')) pos.line X.env = pure false := by rfl) : XS X fx (.Assign [.Subscript (.Name nm p) b pos'] e pos) (mPutK i mi me) :=
  PS.mono (ps_dput (by omega) (pe_var hN hv hd hcd) hb he hs) fun _ _ _ h => ts_putK h
/-- {} -/
def mNewK : ME := fun ds => some (.dic .own [] [], ds)
theorem tm_newK (h : tm K mg mNewK σ H Q) : tDNewK σ H Q := by
  obtain ⟨G, ds, f, d, ds', g, o, n, e, k⟩ := h
  cases e
  intro p hp
  refine k _ G _ (Pst.map (f1 := f) (f2 := []) (by simpa using Ext.refl g f) o (by simpa using n) ⟨[p], ?_, ?_, by simp⟩)
  · exact Ext.new g hp
  · simpa using Owns.od (kvs := []) (f1 := []) (f2 := []) upd_same (not_g g hp) rfl .nil .nil
theorem xe_newK {pos : Pos} : XE X (.Dict [] [] pos) mNewK := PE.mono pe_dnewK fun _ _ _ h => tm_newK h
/-! dict(d): a copy -/
def dDictD : List D → Option D
  | [.dic _ ks es] => if cleans es then some (.dic .own ks es) else none
  | _ => none
theorem calld_dictD : CallD K mg (fun xs H Q => ∃ (a : Addr) (kvs : List (Key × V)), xs = [.ref a] ∧ Rd H a (.dK kvs) ∧ ∀ p, H p = none → Q (.ref p) (upd H p (.dK kvs))) dDictD := by
  intro G H xs es d' f Q gh h n e k
  unfold dDictD at e
  split at e
  · split at e
    · rename_i c
      cases e
      cases xs with
      | nil => cases h
      | cons x xs =>
        obtain ⟨f1, f2, rfl, h1, h2⟩ := h.cons_inv
        cases h2
        obtain ⟨a, kvs, f', rfl, e1, e2, w, _, _⟩ := h1.dic_inv gh
        have := w.clean c
        subst this
        refine ⟨a, kvs, rfl, .inl e1, fun p hp => k _ G _ ⟨[p], (Ext.new (f := f1 ++ []) gh hp).less (by simp), ?_, by simp⟩⟩
        have w2 := w.fresh (o := .dK kvs) gh hp
        simpa using Owns.od (f2 := []) upd_same (not_g gh hp) e2 w2 .nil
    · cases e
  · cases e
/-! == and != of two dicts that are alike -/
def likeK : List Key → List D → List Key → List D → Bool
  | k :: ks, .v x :: es, ks', es' => (match getD_ ks' es' k with
    | some (.v y) => decide (x = y) && flatB x
    | _ => false) && likeK ks es ks' es'
  | [], [], _, _ => true
  | _, _, _, _ => false
theorem like_own : ∀ {kvs : List (Key × V)} {es : List D} {f : List Addr} {ls : List (Key × V)} {es' : List D} {f' : List Addr}, Owns K mg G H (kvs.map (·.2)) es f → Owns K mg G H (ls.map (·.2)) es' f' → likeK (kvs.map (·.1)) es (ls.map (·.1)) es' = true → ∀ p ∈ kvs, valV ls p.1 = some p.2 ∧ flatB p.2 = true := by
  intro kvs
  induction kvs with
  | nil => intro _ _ _ _ _ _ _ _ p hp; cases hp
  | cons kv kvs ih =>
    intro es f ls es' f' h h' e p hp
    cases es with
    | nil => have := h.length; simp at this
    | cons d es =>
      obtain ⟨f1, f2, rfl, h1, h2⟩ := Owns.cons_inv h
      simp only [List.map_cons] at e
      unfold likeK at e
      split at e
      · rename_i k ks0 x0 es0 ks1 es1 hk hd
        cases hk; cases hd
        rw [Bool.and_eq_true] at e
        rcases List.mem_cons.mp hp with rfl | hp
        · split at e
          · rename_i y hy
            have e1 := e.1
            rw [Bool.and_eq_true] at e1
            obtain ⟨v, f3, hv, w3, _, _⟩ := h'.getS hy
            obtain ⟨rfl, _⟩ := w3.v_inv
            obtain ⟨q, _⟩ := h1.v_inv
            have e2 := of_decide_eq_true e1.1
            have q2 : _ = p.2 := q.symm
            rw [← q2]
            exact ⟨by rw [hv, ← e2], e1.2⟩
          · exact absurd e.1 (by simp)
        · exact ih h2 h' e.2 p hp
      · rename_i hk hd; cases hk
      · cases e
def dLikeK (b : Bool) : D → D → Option D
  | .dic _ ks es, .dic _ ks' es' => if ks.length = ks'.length ∧ likeK ks es ks' es' = true then some (.v (.bl b)) else none
  | _, _ => none
theorem like_core (gh : Same G H) {b : Bool} {d' : D} (h : Owns K mg G H [x, y] [d, e] f) (q : dLikeK b d e = some d') : d' = .v (.bl b) ∧ ∃ a c ks ls, x = .ref a ∧ y = .ref c ∧ H a = some (.dK ks) ∧ H c = some (.dK ls) ∧ ks.length = ls.length ∧ ∀ p ∈ ks, valV ls p.1 = some p.2 ∧ flatB p.2 = true := by
  unfold dLikeK at q
  split at q
  · split at q
    · rename_i c
      cases q
      obtain ⟨f1, f2, rfl, h1, h2⟩ := h.two
      obtain ⟨a, kvs, f3, rfl, e1, rfl, w, _, _⟩ := h1.dic_inv gh
      obtain ⟨b', ls, f4, rfl, e2, rfl, w2, _, _⟩ := h2.dic_inv gh
      exact ⟨rfl, a, b', kvs, ls, rfl, rfl, e1, e2, by simpa using c.1, like_own w w2 c.2⟩
    · cases q
  · cases q
theorem opd_eqK : OpD K mg rEqDA (dLikeK true) := by
  intro G H x y d e d' f Q gh h n q k
  obtain ⟨rfl, a, b, ks, ls, h1, h2, h3, h4, h5, h6⟩ := like_core gh h q
  exact ⟨a, b, ks, ls, h1, h2, h3, h4, h5, h6, k _ G H (VPst.val gh)⟩
theorem opd_neK : OpD K mg rNeDA (dLikeK false) := by
  intro G H x y d e d' f Q gh h n q k
  obtain ⟨rfl, a, b, ks, ls, h1, h2, h3, h4, h5, h6⟩ := like_core gh h q
  exact ⟨a, b, ks, ls, h1, h2, h3, h4, h5, h6, k _ G H (VPst.val gh)⟩
section
variable {a b : Expr} {ma mb : ME} {pos : Pos}
theorem xe_eqK (hu : X.A.units + 65 < cLine) (ha : XE X a ma) (hb : XE X b mb) : XE X (.Compare a [.Eq] [b] pos) (mOp (dLikeK true) ma mb) := xe_cmp (op_eq_dictA (by omega)) opd_eqK ha hb (nomark _)
theorem xe_neK (hu : X.A.units + 65 < cLine) (ha : XE X a ma) (hb : XE X b mb) : XE X (.Compare a [.NotEq] [b] pos) (mOp (dLikeK false) ma mb) := xe_cmp (op_ne_dictA (by omega)) opd_neK ha hb (nomark _)
theorem xt_eqK (hu : X.A.units + 65 < cLine) (ha : XE X a ma) (hb : XE X b mb) : XT X (.Compare a [.Eq] [b] pos) (mTst (mOp (dLikeK true) ma mb)) := xt_cmp (op_eq_dictA (by omega)) opd_eqK ha hb (nomark _)
theorem xt_neK (hu : X.A.units + 65 < cLine) (ha : XE X a ma) (hb : XE X b mb) : XT X (.Compare a [.NotEq] [b] pos) (mTst (mOp (dLikeK false) ma mb)) := xt_cmp (op_ne_dictA (by omega)) opd_neK ha hb (nomark _)
end
end
end Z
namespace Z
open PySem L2
/-! ### lengths of texts -/
theorem len_append (a b : Str) : (a ++ b).length = a.length + b.length := by
  show (a.cps ++ b.cps).size = _
  simp [Str.length]
theorem digits_len : ∀ (fuel b n : Nat) (ds : List Char), (Nat.toDigitsCore b fuel n ds).length ≤ fuel + ds.length := by
  intro fuel b
  induction fuel with
  | zero => intro n ds; simp [Nat.toDigitsCore]
  | succ fuel ih =>
    intro n ds
    simp only [Nat.toDigitsCore]
    split
    · simp only [List.length_cons]; omega
    · have := ih (n / b) (Nat.digitChar (n % b) :: ds)
      simp at this; omega
theorem ofString_len (s : String) : (Str.ofString s).length = s.toList.length := by
  rw [Str.ofString_eq_toList]; simp [Str.length]
theorem repr_len (n : Nat) : (Nat.repr n).toList.length ≤ n + 1 := by
  have := digits_len (n + 1) 10 n []
  simpa [Nat.repr, Nat.toDigits] using this
theorem toString_len (i : Int) : (Str.ofString (toString i)).length ≤ i.natAbs + 2 := by
  rw [ofString_len]
  cases i with
  | ofNat n =>
    show (Nat.repr n).toList.length ≤ n + 2
    have := repr_len n; omega
  | negSucc n =>
    have e : (toString (Int.negSucc n)).toList = '-' :: (Nat.repr (n+1)).toList := by simp [toString, Int.repr]
    rw [e]
    have := repr_len (n + 1)
    simp only [List.length_cons, Int.natAbs_negSucc]; omega
theorem join_len {a : Str} (h : a.length = 0) (ys : List Str) : (Txt.join a ys).length = (ys.map (·.length)).sum := by
  rw [TL.join_eq]
  induction ys with
  | nil => rfl
  | cons y ys ih =>
    cases ys with
    | nil => simp [Str.join]
    | cons z r =>
      show (y ++ a ++ Str.join a (z :: r)).length = _
      rw [len_append, len_append, ih, h]; simp
theorem cutS_len (z : Str) (lo hi : Option Int) : (cutS z lo hi).length ≤ z.length := by
  simp only [cutS, Str.length, List.size_toArray, List.length_take, List.length_drop, Array.length_toList]
  omega
theorem cutS_to (z : Str) (k : Nat) : (cutS z none (some (k : Int))).length ≤ k := by
  have : HT.sIx z.length z.length (some (k : Int)) ≤ k := by
    rw [HT.sIx_nat]; omega
  simp only [cutS, Str.length, List.size_toArray, List.length_take, List.length_drop, Array.length_toList] at *
  omega
abbrev okT (s : Str) : Bool := PyData.strOk s
theorem okT_iff (s : Str) : okT s = true ↔ ∀ c ∈ s.cps.toList, c < 0x110000 := by
  unfold okT PyData.strOk
  rw [Array.all_eq_true_iff_forall_mem]
  simp
theorem okT_append {a b : Str} (ha : okT a = true) (hb : okT b = true) : okT (a ++ b) = true := by
  rw [okT_iff] at *
  intro c hc
  have : c ∈ a.cps.toList ++ b.cps.toList := by
    have e : (a ++ b).cps = a.cps ++ b.cps := rfl
    rw [e] at hc; simpa using hc
  rcases List.mem_append.mp this with h | h
  · exact ha c h
  · exact hb c h
theorem okT_cut {z : Str} (h : okT z = true) (lo hi : Option Int) : okT (cutS z lo hi) = true := by
  rw [okT_iff] at *
  intro c hc
  simp only [cutS, List.toList_toArray] at hc
  exact h c (List.mem_of_mem_drop (List.mem_of_mem_take hc))
theorem okT_join {a : Str} (ha : okT a = true) : ∀ {ys : List Str}, (∀ y ∈ ys, okT y = true) → okT (Txt.join a ys) = true := by
  intro ys
  rw [TL.join_eq]
  induction ys with
  | nil => intro _; show okT Str.empty = true; decide +kernel
  | cons y ys ih =>
    intro h
    cases ys with
    | nil => exact h y (by simp)
    | cons z r => exact okT_append (okT_append (h y (by simp)) ha) (ih fun q hq => h q (by simp [hq]))
/-! ### what equals itself -/
mutual
def lay : Nat → D → Bool
  | 0, _ => false
  | _ + 1, .v .non => true
  | _ + 1, .v (.bl _) => true
  | _ + 1, .v (.int _) => true
  | _ + 1, .v (.str s) => okT s
  | n + 1, .tup ds => lays n ds
  | n + 1, .lst _ ds => lays n ds
  | _ + 1, _ => false
def lays : Nat → List D → Bool
  | _, [] => true
  | n, d :: ds => lay n d && lays n ds
end
mutual
theorem lay_ok : ∀ (n : Nat) (d : D), lay n d = true → ∃ p, py d = some p ∧ p.canLay0 = true ∧ p.depth ≤ n
  | 0, _, h => by simp [lay] at h
  | n + 1, .v .non, _ => ⟨.none, rfl, by simp [PyData.canLay0], by simp [PyData.depth]⟩
  | n + 1, .v (.bl b), _ => ⟨.bool b, rfl, by simp [PyData.canLay0], by simp [PyData.depth]⟩
  | n + 1, .v (.int i), _ => ⟨.int i, rfl, by simp [PyData.canLay0], by simp [PyData.depth]⟩
  | n + 1, .v (.str s), h => ⟨.str s, rfl, by simpa [PyData.canLay0, lay] using h, by simp [PyData.depth]⟩
  | n + 1, .tup ds, h => by
    obtain ⟨ps, a, b, c⟩ := lays_ok n ds (by simpa [lay] using h)
    exact ⟨.tuple ps, by simp [py, a], by simpa [PyData.canLay0] using b, by simp only [PyData.depth]; omega⟩
  | n + 1, .lst o ds, h => by
    obtain ⟨ps, a, b, c⟩ := lays_ok n ds (by simpa [lay] using h)
    exact ⟨.list ps, by simp [py, a], by simpa [PyData.canLay0] using b, by simp only [PyData.depth]; omega⟩
  | n + 1, .v (.flt _), h => by simp [lay] at h
  | n + 1, .v (.ref _), h => by simp [lay] at h
  | n + 1, .v (.ty _), h => by simp [lay] at h
  | n + 1, .v (.byt _), h => by simp [lay] at h
  | n + 1, .ktp _, h => by simp [lay] at h
  | n + 1, .dic _ _ _, h => by simp [lay] at h
  | n + 1, .dit _ _ _, h => by simp [lay] at h
  | n + 1, .ins _ _ _, h => by simp [lay] at h
theorem lays_ok : ∀ (n : Nat) (ds : List D), lays n ds = true → ∃ ps, pys ds = some ps ∧ PyData.canLayAll0 ps = true ∧ PyData.depthAll ps ≤ n
  | n, [], _ => ⟨[], rfl, by simp [PyData.canLayAll0], by simp [PyData.depthAll]⟩
  | n, d :: ds, h => by
    simp only [lays, Bool.and_eq_true] at h
    obtain ⟨p, a, b, c⟩ := lay_ok n d h.1
    obtain ⟨ps, a2, b2, c2⟩ := lays_ok n ds h.2
    exact ⟨p :: ps, by simp [pys, a, a2], by simp [PyData.canLayAll0, b, b2], by simp only [PyData.depthAll]; omega⟩
end
theorem dEq_same {d e : D} {n : Nat} (h : lay n d = true) (hn : n ≤ 64) (hpy : py e = py d) (ht : ∀ x, d ≠ .v x) : dEq d e = some (.v (.bl true)) := by
  obtain ⟨p, a, b, c⟩ := lay_ok n d h
  have hs : SeqAt.shaped p = true := by
    unfold SeqAt.shaped
    rw [Bool.and_eq_true]
    exact ⟨b, decide_eq_true (by omega)⟩
  have he := SeqAt.eqv_refl p b
  unfold dEq dEqB
  split
  · rename_i x y
    exact absurd rfl (ht x)
  · rw [hpy, a]
    simp [hs, he]
end Z
namespace Z
open PySem L2
/-! ### helpers of the plain laws -/
/-- an equation that simp is to keep as a step of its own -/
theorem nrfl {α : Type} {a : α} : a = a := Eq.trans rfl rfl
theorem log2_small {n : Nat} (h : n < 2 ^ 64) : n.log2 < 64 := by
  by_cases h0 : n = 0
  · subst h0; decide
  · exact (Nat.log2_lt h0).mpr h
theorem dFdiv_eq {i j : Int} (h : 0 < j) (h2 : j < 18446744073709551616) : dFdiv (.v (.int i)) (.v (.int j)) = some (.v (.int (i / j))) := by
  have h3 : j.natAbs.log2 < 64 := log2_small (by omega)
  have h4 : j.natAbs.log2 < 9000 := by omega
  simp [dFdiv, dInt2C, h, h4]
theorem dMod_eq {i j : Int} (h : 0 < j) : dMod (.v (.int i)) (.v (.int j)) = some (.v (.int (i % j))) := by simp [dMod, dInt2C, h]
theorem dMul_r {i j : Int} (h : -18446744073709551616 < j) (h2 : j < 18446744073709551616) : dMul (.v (.int i)) (.v (.int j)) = some (.v (.int (i * j))) := by
  have c : cMul i j = true := decide_eq_true (.inr (.inl ⟨by omega, by omega⟩))
  simp only [dMul, dInt2C]
  rw [if_pos c]
theorem dMul_l {i j : Int} (h : -18446744073709551616 < i) (h2 : i < 18446744073709551616) : dMul (.v (.int i)) (.v (.int j)) = some (.v (.int (i * j))) := by
  have c : cMul i j = true := decide_eq_true (.inl ⟨by omega, by omega⟩)
  simp only [dMul, dInt2C]
  rw [if_pos c]
theorem dPow_eq {i j : Int} (h : 0 ≤ j) (h2 : j ≤ 1000000) (h3 : i.natAbs < 18446744073709551616) : dPow (.v (.int i)) (.v (.int j)) = some (.v (.int (i ^ j.toNat))) := by
  simp only [dPow, dInt2C]
  rw [if_pos (decide_eq_true ⟨h, h2, by omega⟩)]
theorem dShr_eq {i j : Int} (h : 0 ≤ j) : dShr (.v (.int i)) (.v (.int j)) = some (.v (.int (i / 2 ^ j.toNat))) := by simp [dShr, dInt2C, h]
theorem dSub_eq {i j : Int} : dSub (.v (.int i)) (.v (.int j)) = some (.v (.int (i - j))) := nrfl
theorem dAdd_int {i j : Int} : dAdd (.v (.int i)) (.v (.int j)) = some (.v (.int (i + j))) := nrfl
theorem dLt_eq {i j : Int} : dLt (.v (.int i)) (.v (.int j)) = some (.v (.bl (decide (i < j)))) := nrfl
theorem dLe_eq {i j : Int} : dLe (.v (.int i)) (.v (.int j)) = some (.v (.bl (decide (i ≤ j)))) := nrfl
theorem dGt_eq {i j : Int} : dGt (.v (.int i)) (.v (.int j)) = some (.v (.bl (decide (j < i)))) := nrfl
theorem dGe_eq {i j : Int} : dGe (.v (.int i)) (.v (.int j)) = some (.v (.bl (decide (j ≤ i)))) := nrfl
theorem dec_int' {i j : Int} : decide (V.int i = V.int j) = decide (i = j) := by by_cases h : i = j <;> simp [h]
theorem dEq_int {i j : Int} : dEq (.v (.int i)) (.v (.int j)) = some (.v (.bl (decide (i = j)))) := by simp [dEq, dEqB, scal, dec_int']
theorem dNe_int {i j : Int} : dNe (.v (.int i)) (.v (.int j)) = some (.v (.bl (!decide (i = j)))) := by simp [dNe, dEqB, scal, dec_int']
theorem dEq_bl {i j : Bool} : dEq (.v (.bl i)) (.v (.bl j)) = some (.v (.bl (decide (i = j)))) := by cases i <;> cases j <;> rfl
theorem dNe_bl {i j : Bool} : dNe (.v (.bl i)) (.v (.bl j)) = some (.v (.bl (!decide (i = j)))) := by cases i <;> cases j <;> rfl
theorem dEq_str {i j : Str} : dEq (.v (.str i)) (.v (.str j)) = some (.v (.bl (decide (i = j)))) := by by_cases h : i = j <;> simp [dEq, dEqB, scal, h]
theorem dNe_str {i j : Str} : dNe (.v (.str i)) (.v (.str j)) = some (.v (.bl (!decide (i = j)))) := by by_cases h : i = j <;> simp [dNe, dEqB, scal, h]
theorem atI_z {α : Type} {x : α} {xs : List α} : atI (x :: xs) 0 = some x := atI_nat (j := 0) rfl
theorem atI_lit {α : Type} {xs : List α} {n : Nat} : atI xs (no_index (OfNat.ofNat n : Int)) = xs[n]? := by
  show atI xs ((n : Nat) : Int) = xs[n]?
  cases h : xs[n]? with
  | some v => exact atI_nat h
  | none =>
    unfold atI ixN
    have := List.getElem?_eq_none_iff.mp h
    rw [if_pos (by omega), if_neg (by omega)]
    rfl
theorem atI_n {α : Type} {xs : List α} {n : Nat} : atI xs ((n : Nat) : Int) = xs[n]? := by
  cases h : xs[n]? with
  | some v => exact atI_nat h
  | none =>
    unfold atI ixN
    have := List.getElem?_eq_none_iff.mp h
    rw [if_pos (by omega), if_neg (by omega)]
    rfl
theorem atI_nn {α : Type} {xs : List α} {i : Int} (h : 0 ≤ i) : atI xs i = xs[i.toNat]? := by
  obtain ⟨n, rfl⟩ := Int.eq_ofNat_of_zero_le h
  exact atI_n
theorem ixN_lit {m n : Nat} : ixN m (no_index (OfNat.ofNat n : Int)) = if n < m then some n else none := by
  show ixN m ((n : Nat) : Int) = _
  unfold ixN
  by_cases h : n < m
  · rw [if_pos (by omega), if_pos (by omega), if_pos h]; simp
  · rw [if_pos (by omega), if_neg (by omega), if_neg h]
theorem ixN_n {m n : Nat} : ixN m ((n : Nat) : Int) = if n < m then some n else none := by
  unfold ixN
  by_cases h : n < m
  · rw [if_pos (by omega), if_pos (by omega), if_pos h]; simp
  · rw [if_pos (by omega), if_neg (by omega), if_neg h]
theorem ixN_nn {m : Nat} {i : Int} (h : 0 ≤ i) : ixN m i = if i.toNat < m then some i.toNat else none := by
  obtain ⟨n, rfl⟩ := Int.eq_ofNat_of_zero_le h
  exact ixN_n
theorem fxOf_nil {i : Nat} : fxOf [] i = false := nrfl
theorem cleans_ints (ns : List Int) : cleans (intsD ns) = true := by
  induction ns with
  | nil => rfl
  | cons n ns ih => simp [intsD, cleans, clean] at ih ⊢; exact ih
mutual
theorem fz_clean : ∀ {d : D}, clean d = true → fz d = d
  | .v _, _ => by simp [fz]
  | .tup ds, h => by simp only [clean] at h; simp only [fz, fzs_clean h]
  | .ktp ds, h => by simp only [clean] at h; simp only [fz, fzs_clean h]
  | .lst o ds, h => by simp only [clean, Bool.and_eq_true, decide_eq_true_eq] at h; cases o <;> simp_all [fz, fzO, fzs_clean h.2]
  | .dic o _ ds, h => by simp only [clean, Bool.and_eq_true, decide_eq_true_eq] at h; cases o <;> simp_all [fz, fzO, fzs_clean h.2]
  | .dit o _ ds, h => by simp only [clean, Bool.and_eq_true, decide_eq_true_eq] at h; cases o <;> simp_all [fz, fzO, fzs_clean h.2]
  | .ins _ _ _, h => by simp [clean] at h
theorem fzs_clean : ∀ {ds : List D}, cleans ds = true → fzs ds = ds
  | [], _ => by simp [fzs]
  | d :: ds, h => by simp only [cleans, Bool.and_eq_true] at h; simp only [fzs, fz_clean h.1, fzs_clean h.2]
end
theorem intsD_get {ns : List Int} {i : Nat} {h : i < (intsD ns).length} : (intsD ns)[i]'h = .v (.int (ns[i]'(by simpa [intsD] using h))) := by simp [intsD]
theorem fzs_ints {ns : List Int} : fzs (intsD ns) = intsD ns := fzs_clean (cleans_ints ns)
theorem intsD_cons {n : Int} {ns : List Int} : intsD (n :: ns) = .v (.int n) :: intsD ns := nrfl
theorem intsD_len {ns : List Int} : (intsD ns).length = ns.length := by simp [intsD]
end Z
namespace Z
open PySem L2
theorem ofStr_inj {s t : String} : (Str.ofString s = Str.ofString t) = (s = t) := by
  apply propext
  constructor
  · intro h
    rw [Str.ofString_eq_toList, Str.ofString_eq_toList] at h
    have h1 : (s.toList.map Char.toNat).toArray = (t.toList.map Char.toNat).toArray := by injection h
    have h2 : s.toList.map Char.toNat = t.toList.map Char.toNat := by simpa using congrArg Array.toList h1
    have inj : ∀ (l m : List Char), l.map Char.toNat = m.map Char.toNat → l = m := by
      intro l
      induction l with
      | nil => intro m h; cases m with
        | nil => rfl
        | cons => cases h
      | cons a l ih => intro m h; cases m with
        | nil => cases h
        | cons b m =>
          simp only [List.map_cons, List.cons.injEq] at h
          have : a = b := by
            apply Char.ext
            apply UInt32.toNat_inj.mp
            exact h.1
          rw [this, ih m h.2]
    exact String.toList_inj.mp (inj _ _ h2)
  · intro h; rw [h]
end Z
namespace Z
open PySem L2
/-! ### the same from the inside out, for simp: what follows is a function that is not looked into before its turn -/
abbrev R1 := Option (D × DS)
section
variable {a b : MS} {ma mb m : ME} {t t2 : MT} {mi mr : MA} {ga : MG} {ds : DS} {g : D → D → Option D} {i j : Nat}
def seqK (b : MS) : Option Out → Option Out
  | some (.nx ds) => b ds
  | some (.bk ds) => some (.bk ds)
  | some (.ct ds) => some (.ct ds)
  | some (.rt d ds) => some (.rt d ds)
  | none => none
theorem mSeq_k : mSeq a b ds = seqK b (a ds) := by unfold mSeq; cases h : a ds with
  | none => rfl
  | some o => cases o <;> rfl
def ifK {α : Type} (a b : DS → Option α) : Option (Bool × DS) → Option α
  | some (true, ds) => a ds
  | some (false, ds) => b ds
  | none => none
theorem mIf_k : mIf t a b ds = ifK a b (t ds) := by unfold mIf; cases t ds with
  | none => rfl
  | some p => obtain ⟨c, d⟩ := p; cases c <;> rfl
theorem mIfE_k : mIfE t ma mb ds = ifK ma mb (t ds) := by unfold mIfE; cases t ds with
  | none => rfl
  | some p => obtain ⟨c, d⟩ := p; cases c <;> rfl
def opK3 (ds : DS) : Option D → R1
  | some d => some (d, ds)
  | none => none
def opK2 (g : D → D → Option D) (d : D) : R1 → R1
  | some (e, ds) => opK3 ds (g d e)
  | none => none
def opK (g : D → D → Option D) (mb : ME) : R1 → R1
  | some (d, ds) => opK2 g d (mb ds)
  | none => none
theorem mOp_k : mOp g ma mb ds = opK g mb (ma ds) := by
  unfold mOp; cases ma ds with
  | none => rfl
  | some p => obtain ⟨d, ds1⟩ := p; show _ = opK2 g d (mb ds1); simp only; cases mb ds1 with
    | none => rfl
    | some q => obtain ⟨e, ds2⟩ := q; show _ = opK3 ds2 (g d e); simp only; cases g d e <;> rfl
def lookK3 (e : D) (ds : DS) : Option D → R1
  | some d' => if clean d' && clean e then some (d', ds) else none
  | none => none
def lookK2 (g : D → D → Option D) (e : D) (ds : DS) : Option (Option D) → R1
  | some (some d) => lookK3 e ds (g d e)
  | _ => none
def lookK1 (i : Nat) (g : D → D → Option D) : R1 → R1
  | some (e, ds) => lookK2 g e ds (ds[i]?)
  | none => none
def lookK (i : Nat) (g : D → D → Option D) (mb : ME) (ds : DS) : Option (Option D) → R1
  | some (some _) => lookK1 i g (mb ds)
  | _ => none
theorem mLook_k : mLook i g mb ds = lookK i g mb ds (ds[i]?) := by
  unfold mLook; cases ds[i]? with
  | none => rfl
  | some o => cases o with
    | none => rfl
    | some _ =>
      show _ = lookK1 i g (mb ds)
      simp only
      cases mb ds with
      | none => rfl
      | some p =>
        obtain ⟨e, ds1⟩ := p
        show _ = lookK2 g e ds1 (ds1[i]?)
        simp only
        cases ds1[i]? with
        | none => rfl
        | some o => cases o with
          | none => rfl
          | some d => show _ = lookK3 e ds1 (g d e); simp only; cases g d e <;> rfl
def varK (i : Nat) (ds : DS) : Option (Option D) → R1
  | some (some d) => if clean d then some (d, ds) else if clean (fz d) then some (fz d, ds.set i (some (fz d))) else none
  | _ => none
theorem mVar_k : mVar i ds = varK i ds (ds[i]?) := by
  unfold mVar; cases ds[i]? with
  | none => rfl
  | some o => cases o <;> rfl
def moveK (i : Nat) (ds : DS) : Option (Option D) → R1
  | some (some d) => some (d, ds.set i none)
  | _ => none
theorem mMove_k : mMove i ds = moveK i ds (ds[i]?) := by
  unfold mMove; cases ds[i]? with
  | none => rfl
  | some o => cases o <;> rfl
def tstK : R1 → Option (Bool × DS)
  | some (.v (.bl b), ds) => some (b, ds)
  | _ => none
theorem mTst_k : mTst m ds = tstK (m ds) := nrfl
def andK (b : MT) : Option (Bool × DS) → Option (Bool × DS)
  | some (true, ds) => b ds
  | some (false, ds) => some (false, ds)
  | none => none
theorem mAnd_k : mAnd t t2 ds = andK t2 (t ds) := by unfold mAnd; cases t ds with
  | none => rfl
  | some p => obtain ⟨c, d⟩ := p; cases c <;> rfl
def orK (b : MT) : Option (Bool × DS) → Option (Bool × DS)
  | some (true, ds) => some (true, ds)
  | some (false, ds) => b ds
  | none => none
theorem mOr_k : mOr t t2 ds = orK t2 (t ds) := by unfold mOr; cases t ds with
  | none => rfl
  | some p => obtain ⟨c, d⟩ := p; cases c <;> rfl
def notK : Option (Bool × DS) → Option (Bool × DS)
  | some (b, ds) => some (!b, ds)
  | none => none
theorem mNot_k : mNot t ds = notK (t ds) := by unfold mNot; cases t ds with
  | none => rfl
  | some p => rfl
def andVK (b : ME) : R1 → R1
  | some (.v (.bl true), ds) => b ds
  | some (.v (.bl false), ds) => some (.v (.bl false), ds)
  | _ => none
theorem mAndV_k : mAndV ma mb ds = andVK mb (ma ds) := nrfl
def orVK (b : ME) : R1 → R1
  | some (.v (.bl true), ds) => some (.v (.bl true), ds)
  | some (.v (.bl false), ds) => b ds
  | _ => none
theorem mOrV_k : mOrV ma mb ds = orVK mb (ma ds) := nrfl
def notVK : R1 → R1
  | some (.v (.bl b), ds) => some (.v (.bl (!b)), ds)
  | _ => none
theorem mNotV_k : mNotV m ds = notVK (m ds) := nrfl
def negK : R1 → R1
  | some (.v (.int i), ds) => some (.v (.int (-i)), ds)
  | _ => none
theorem mNeg_k : mNeg m ds = negK (m ds) := nrfl
def setK (i : Nat) (d : D) (ds : DS) : Option Out := if i < ds.length then some (.nx (ds.set i (some d))) else none
def asgK (i : Nat) : R1 → Option Out
  | some (d, ds) => setK i d ds
  | none => none
theorem mAsg_k : mAsg i m ds = asgK i (m ds) := by
  unfold mAsg; cases m ds with
  | none => rfl
  | some p =>
    obtain ⟨d, ds1⟩ := p
    show (setSlot i d ds1).map .nx = setK i d ds1
    unfold setSlot setK
    split <;> rfl
def retK : R1 → Option Out
  | some (d, ds) => some (.rt d ds)
  | none => none
theorem mRet_k : mRet m ds = retK (m ds) := nrfl
def dropK : R1 → Option Out
  | some (_, ds) => some (.nx ds)
  | none => none
theorem mDrop_k : mDrop m ds = dropK (m ds) := nrfl
def consK2 (d : D) : Option (List D × DS) → Option (List D × DS)
  | some (es, ds) => some (d :: es, ds)
  | none => none
def consK (r : MA) : R1 → Option (List D × DS)
  | some (d, ds) => consK2 d (r ds)
  | none => none
theorem mCons_k : mCons m mr ds = consK mr (m ds) := by
  unfold mCons; cases m ds with
  | none => rfl
  | some p => obtain ⟨d, ds1⟩ := p; show _ = consK2 d (mr ds1); simp only; cases mr ds1 <;> rfl
def fnK (f : List D → Option D) : Option (List D × DS) → R1
  | some (es, ds) => opK3 ds (f es)
  | none => none
theorem mFn_k {f : List D → Option D} : mFn f mr ds = fnK f (mr ds) := by
  unfold mFn; cases mr ds with
  | none => rfl
  | some p => obtain ⟨d, ds1⟩ := p; show _ = opK3 ds1 (f d); simp only; cases f d <;> rfl
def setIxK3 (i : Nat) (d : D) (ds : DS) (es : List D) : Option Nat → Option Out
  | some j => some (.nx (ds.set i (some (.lst .own (es.set j d)))))
  | none => none
def setIxK2 (i : Nat) (d : D) (k : Int) (ds : DS) : Option (Option D) → Option Out
  | some (some (.lst .own es)) => setIxK3 i d ds es (ixN es.length k)
  | _ => none
def setIxK1 (i : Nat) (d : D) : R1 → Option Out
  | some (.v (.int k), ds) => setIxK2 i d k ds (ds[i]?)
  | _ => none
def setIxK0 (i : Nat) (mi : ME) (d : D) (ds : DS) : Option (Option D) → Option Out
  | some (some _) => setIxK1 i d (mi ds)
  | _ => none
def setIxK (i : Nat) (mi : ME) : R1 → Option Out
  | some (d, ds) => setIxK0 i mi d ds (ds[i]?)
  | none => none
theorem mSetIx_k : mSetIx i ma mb ds = setIxK i ma (mb ds) := by
  unfold mSetIx
  cases mb ds with
  | none => rfl
  | some p =>
    obtain ⟨d, ds1⟩ := p
    show _ = setIxK0 i ma d ds1 (ds1[i]?)
    simp only
    cases ds1[i]? with
    | none => rfl
    | some o =>
      cases o with
      | none => rfl
      | some _ =>
        show _ = setIxK1 i d (ma ds1)
        simp only
        cases ma ds1 with
        | none => rfl
        | some q =>
          obtain ⟨e, ds2⟩ := q
          cases e with
          | v x =>
            cases x with
            | int k =>
              show _ = setIxK2 i d k ds2 (ds2[i]?)
              simp only
              cases ds2[i]? with
              | none => rfl
              | some o =>
                cases o with
                | none => rfl
                | some u =>
                  cases u with
                  | lst oo es =>
                    cases oo with
                    | own =>
                      show _ = setIxK3 i d ds2 es (ixN es.length k)
                      simp only
                      cases ixN es.length k <;> rfl
                    | _ => rfl
                  | _ => rfl
            | _ => rfl
          | _ => rfl
def augK2 (i : Nat) (g : Int → Int → Int) (a : Int) : R1 → Option Out
  | some (.v (.int b), ds) => setK i (.v (.int (g a b))) ds
  | _ => none
def augK (i : Nat) (g : Int → Int → Int) (m : ME) (ds : DS) : Option (Option D) → Option Out
  | some (some (.v (.int a))) => augK2 i g a (m ds)
  | _ => none
theorem setSlot_k {d : D} : (setSlot i d ds).map Out.nx = setK i d ds := by unfold setSlot setK; split <;> rfl
theorem mAug_k {g : Int → Int → Int} : mAug i g m ds = augK i g m ds (ds[i]?) := by
  unfold mAug
  cases ds[i]? with
  | none => rfl
  | some o =>
    cases o with
    | none => rfl
    | some u =>
      cases u with
      | v x =>
        cases x with
        | int a =>
          show _ = augK2 i g a (m ds)
          simp only
          cases m ds with
          | none => rfl
          | some p =>
            obtain ⟨e, ds1⟩ := p
            cases e with
            | v x => cases x with
              | int b => exact setSlot_k
              | _ => rfl
            | _ => rfl
        | _ => rfl
      | _ => rfl
def appendK1 (i : Nat) (d : D) (ds : DS) : Option (Option D) → Option Out
  | some (some (.lst .own es)) => if es.length < 10000000 then some (.nx (ds.set i (some (.lst .own (es ++ [d]))))) else none
  | _ => none
def appendK0 (i : Nat) : R1 → Option Out
  | some (d, ds) => appendK1 i d ds (ds[i]?)
  | none => none
def appendK (i : Nat) (m : ME) (ds : DS) : Option (Option D) → Option Out
  | some (some (.lst _ _)) => appendK0 i (m ds)
  | _ => none
theorem mAppend_k : mAppend i m ds = appendK i m ds (ds[i]?) := by
  unfold mAppend
  cases ds[i]? with
  | none => rfl
  | some o =>
    cases o with
    | none => rfl
    | some u =>
      cases u with
      | lst oo es =>
        show _ = appendK0 i (m ds)
        simp only
        cases m ds with
        | none => rfl
        | some p =>
          obtain ⟨d, ds1⟩ := p
          show _ = appendK1 i d ds1 (ds1[i]?)
          simp only
          cases ds1[i]? with
          | none => rfl
          | some o => cases o with
            | none => rfl
            | some u => cases u with
              | lst oo es => cases oo <;> rfl
              | _ => rfl
      | _ => rfl
def asgTK2 : Option DS → Option Out
  | some ds => some (.nx ds)
  | none => none
def asgTK (a : MG) : R1 → Option Out
  | some (d, ds) => if clean d then asgTK2 (a d ds) else none
  | none => none
theorem mAsgT_k : mAsgT ga m ds = asgTK ga (m ds) := by
  unfold mAsgT; cases m ds with
  | none => rfl
  | some p => obtain ⟨d, ds1⟩ := p; show _ = (if clean d then asgTK2 (ga d ds1) else none); simp only; split
              · cases ga d ds1 <;> rfl
              · rfl
def itK2 (ds : DS) : Option (List D) → Option (List D × DS)
  | some es => some (es, ds)
  | none => none
def itK (f : D → Option (List D)) : R1 → Option (List D × DS)
  | some (d, ds) => itK2 ds (f d)
  | none => none
theorem mIt_k {f : D → Option (List D)} : mIt f m ds = itK f (m ds) := by
  unfold mIt; cases m ds with
  | none => rfl
  | some p => obtain ⟨d, ds1⟩ := p; show _ = itK2 ds1 (f d); simp only; cases f d <;> rfl
def rngK : Option (List D × DS) → Option (List D × DS)
  | some (es, ds) => itK2 ds (mRng es)
  | none => none
theorem mRngA_k : mRngA mr ds = rngK (mr ds) := by
  unfold mRngA; cases mr ds with
  | none => rfl
  | some p => obtain ⟨d, ds1⟩ := p; show _ = itK2 ds1 (mRng d); simp only; cases mRng d <;> rfl
def forK (a : MG) (b : MS) : Option (List D × DS) → Option Out
  | some (items, ds) => forL a b items ds
  | none => none
theorem mFor_k : mFor mi ga a ds = forK ga a (mi ds) := by unfold mFor; cases mi ds with
  | none => rfl
  | some p => rfl
def turnK (a : MG) (b : MS) (r : List D) : Option Out → Option Out
  | some (.nx ds) => forL a b r ds
  | some (.ct ds) => forL a b r ds
  | some (.bk ds) => some (.nx ds)
  | some (.rt d ds) => some (.rt d ds)
  | none => none
def turnK0 (a : MG) (b : MS) (r : List D) : Option DS → Option Out
  | some ds => turnK a b r (b ds)
  | none => none
theorem forL_nil : forL ga a [] ds = some (.nx ds) := nrfl
theorem forL_cons {x : D} {r : List D} : forL ga a (x :: r) ds = turnK0 ga a r (ga x ds) := by
  rw [forL]; cases ga x ds with
  | none => rfl
  | some ds1 => show _ = turnK ga a r (a ds1); simp only; cases a ds1 with
    | none => rfl
    | some o => cases o <;> rfl
def lcK1 : Option (List D × DS) → R1
  | some (es, ds) => some (.lst .own es, ds)
  | none => none
def lcK (a : MG) (t : MT) (m : ME) (ws : List Nat) : Option (List D × DS) → R1
  | some (items, ds) => if items.length ≤ 1000000 then lcK1 (lcL a t m ws items (wipeD ds ws)) else none
  | none => none
theorem mLc_k {ws : List Nat} : mLc mi ga t m ws ds = lcK ga t m ws (mi ds) := by
  unfold mLc; cases mi ds with
  | none => rfl
  | some p => obtain ⟨it, ds1⟩ := p; show _ = (if it.length ≤ 1000000 then lcK1 (lcL ga t m ws it (wipeD ds1 ws)) else none); simp only; split
              · cases lcL ga t m ws it (wipeD ds1 ws) <;> rfl
              · rfl
def lcT2 (a : MG) (t : MT) (m : ME) (ws : List Nat) (r : List D) : R1 → Option (List D × DS)
  | some (d, ds) => consK2 d (lcL a t m ws r (wipeD ds ws))
  | none => none
def lcT1 (a : MG) (t : MT) (m : ME) (ws : List Nat) (r : List D) : Option (Bool × DS) → Option (List D × DS)
  | some (true, ds) => lcT2 a t m ws r (m ds)
  | some (false, ds) => lcL a t m ws r (wipeD ds ws)
  | none => none
def lcT0 (a : MG) (t : MT) (m : ME) (ws : List Nat) (r : List D) : Option DS → Option (List D × DS)
  | some ds => lcT1 a t m ws r (t ds)
  | none => none
theorem lcL_nil {ws : List Nat} : lcL ga t m ws [] ds = some ([], ds) := nrfl
theorem lcL_cons {ws : List Nat} {x : D} {r : List D} : lcL ga t m ws (x :: r) ds = lcT0 ga t m ws r (ga x ds) := by
  rw [lcL]; cases ga x ds with
  | none => rfl
  | some ds1 =>
    show _ = lcT1 ga t m ws r (t ds1)
    simp only
    cases t ds1 with
    | none => rfl
    | some p =>
      obtain ⟨c, ds2⟩ := p
      cases c with
      | false => rfl
      | true =>
        show _ = lcT2 ga t m ws r (m ds2)
        simp only
        cases m ds2 with
        | none => rfl
        | some q =>
          obtain ⟨d, ds3⟩ := q
          show _ = consK2 d (lcL ga t m ws r (wipeD ds3 ws))
          simp only
          cases lcL ga t m ws r (wipeD ds3 ws) <;> rfl
/-! calls -/
def callK2 (rs : List (Nat ⊕ D)) (as : List D) (ds : DS) : R1 → R1
  | some (d, qs) => some (d, put rs as qs ds)
  | none => none
def callK1 (F : List D → Option (D × DS)) (rs : List (Nat ⊕ D)) : Option (List D × DS) → R1
  | some (as, ds) => callK2 rs as ds (F as)
  | none => none
def callK (F : List D → Option (D × DS)) : Option (List (Nat ⊕ D) × DS) → R1
  | some (rs, ds) => callK1 F rs (take rs ds)
  | none => none
theorem mCall_k {F : List D → Option (D × DS)} {args : List Arg} : mCall F args ds = callK F (mArgs args ds) := by
  unfold mCall; cases mArgs args ds with
  | none => rfl
  | some p =>
    obtain ⟨rs, ds1⟩ := p
    show _ = callK1 F rs (take rs ds1)
    simp only
    cases take rs ds1 with
    | none => rfl
    | some q => obtain ⟨as, ds2⟩ := q; show _ = callK2 rs as ds2 (F as); simp only; cases F as <;> rfl
def argK2 (x : Nat ⊕ D) : Option (List (Nat ⊕ D) × DS) → Option (List (Nat ⊕ D) × DS)
  | some (rs, ds) => some (x :: rs, ds)
  | none => none
def argK (r : List Arg) : R1 → Option (List (Nat ⊕ D) × DS)
  | some (d, ds) => argK2 (.inr d) (mArgs r ds)
  | none => none
def argB (i : Nat) (r : List Arg) (ds : DS) : Option (Option D) → Option (List (Nat ⊕ D) × DS)
  | some (some _) => argK2 (.inl i) (mArgs r ds)
  | _ => none
theorem mArgs_nil : mArgs [] ds = some ([], ds) := nrfl
theorem mArgs_ex {r : List Arg} : mArgs (.ex m :: r) ds = argK r (m ds) := by
  rw [mArgs]; cases m ds with
  | none => rfl
  | some p => obtain ⟨d, ds1⟩ := p; show _ = argK2 _ (mArgs r ds1); simp only; cases mArgs r ds1 <;> rfl
theorem mArgs_bo {r : List Arg} : mArgs (.bo i :: r) ds = argB i r ds (ds[i]?) := by
  rw [mArgs]; cases ds[i]? with
  | none => rfl
  | some o => cases o with
    | none => rfl
    | some d => show _ = argK2 _ (mArgs r ds); simp only; cases mArgs r ds <;> rfl
def takeK (d : D) : Option (List D × DS) → Option (List D × DS)
  | some (es, ds) => some (d :: es, ds)
  | none => none
def takeB (i : Nat) (r : List (Nat ⊕ D)) (ds : DS) : Option (Option D) → Option (List D × DS)
  | some (some d) => takeK d (take r (if clean d then ds else ds.set i none))
  | _ => none
theorem take_nil : take [] ds = some ([], ds) := nrfl
theorem take_ex {d : D} {r : List (Nat ⊕ D)} : take (.inr d :: r) ds = takeK d (take r ds) := by rw [take]; cases take r ds <;> rfl
theorem take_bo {r : List (Nat ⊕ D)} : take (.inl i :: r) ds = takeB i r ds (ds[i]?) := by
  rw [take]; cases ds[i]? with
  | none => rfl
  | some o => cases o with
    | none => rfl
    | some d => show _ = takeK d (take r _); simp only; cases take r _ <;> rfl
theorem put_nil {as : List D} {os : DS} : put [] as os ds = ds := by cases as <;> cases os <;> rfl
theorem put_bo {r : List (Nat ⊕ D)} {d : D} {as : List D} {o : Option D} {os : DS} : put (.inl i :: r) (d :: as) (o :: os) ds = put r as os (if clean d then ds else ds.set i o) := nrfl
theorem put_ex {r : List (Nat ⊕ D)} {e d : D} {as : List D} {o : Option D} {os : DS} : put (.inr e :: r) (d :: as) (o :: os) ds = put r as os ds := nrfl
def fnMK (fx : Nat → Bool) (as : List D) : Option Out → R1
  | some (.rt d ds) => some (d, outs fx 0 as ds)
  | some (.nx ds) => some (.v .non, outs fx 0 as ds)
  | _ => none
theorem fnM_k {np n : Nat} {fx : Nat → Bool} {as : List D} : fnM np n fx a as = if as.length = np then fnMK fx as (a (as.map some ++ List.replicate (n - np) none)) else none := by
  unfold fnM; split
  · cases a (as.map some ++ List.replicate (n - np) none) with
    | none => rfl
    | some o => cases o <;> rfl
  · rfl
/-! ### of the later rules -/
def isNK (b : Bool) : R1 → R1
  | some (d, ds) => some (.v (.bl (if b then isN d else !isN d)), ds)
  | none => none
theorem mIsN_k {c : Bool} : mIsN c m ds = isNK c (m ds) := nrfl
def isNVK (b : Bool) (ds : DS) : Option (Option D) → R1
  | some (some d) => some (.v (.bl (if b then isN d else !isN d)), ds)
  | _ => none
theorem mIsNV_k {c : Bool} : mIsNV c i ds = isNVK c ds (ds[i]?) := nrfl
def chnK3 (p' : Int → Int → Bool) (j : Int) : R1 → R1
  | some (.v (.int k), ds) => some (.v (.bl (p' j k)), ds)
  | _ => none
def chnK2 (p p' : Int → Int → Bool) (mc : ME) (i : Int) : R1 → R1
  | some (.v (.int j), ds) => if p i j = true then chnK3 p' j (mc ds) else some (.v (.bl false), ds)
  | _ => none
def chnK (p p' : Int → Int → Bool) (mb mc : ME) : R1 → R1
  | some (.v (.int i), ds) => chnK2 p p' mc i (mb ds)
  | _ => none
theorem mChn_k {p p' : Int → Int → Bool} {mc : ME} : mChn p p' ma mb mc ds = chnK p p' mb mc (ma ds) := by
  unfold mChn
  cases ma ds with
  | none => rfl
  | some q =>
    obtain ⟨d, ds1⟩ := q
    cases d with
    | v x =>
      cases x with
      | int i =>
        show _ = chnK2 p p' mc i (mb ds1)
        simp only
        cases mb ds1 with
        | none => rfl
        | some q =>
          obtain ⟨d, ds2⟩ := q
          cases d with
          | v x =>
            cases x with
            | int j => rfl
            | _ => rfl
          | _ => rfl
      | _ => rfl
    | _ => rfl
def revK : R1 → R1
  | some (.lst _ es, ds) => if cleans es then some (.lst .own es.reverse, ds) else none
  | _ => none
theorem mRev_k : mRev m ds = revK (m ds) := nrfl
def extendK1 (i : Nat) (zs : List D) (ds : DS) : Option (Option D) → Option Out
  | some (some (.lst .own es)) => if es.length + zs.length < 10000000 then some (.nx (ds.set i (some (.lst .own (es ++ zs))))) else none
  | _ => none
def extendK0 (i : Nat) : R1 → Option Out
  | some (.lst .own zs, ds) => extendK1 i zs ds (ds[i]?)
  | some (.lst .fro zs, ds) => extendK1 i zs ds (ds[i]?)
  | _ => none
def extendK (i : Nat) (m : ME) (ds : DS) : Option (Option D) → Option Out
  | some (some (.lst _ _)) => extendK0 i (m ds)
  | _ => none
theorem mExtend_k : mExtend i m ds = extendK i m ds (ds[i]?) := by
  unfold mExtend
  cases ds[i]? with
  | none => rfl
  | some o => cases o with
    | none => rfl
    | some u => cases u with
      | lst oo es =>
        show _ = extendK0 i (m ds)
        simp only
        cases m ds with
        | none => rfl
        | some q =>
          obtain ⟨d, ds1⟩ := q
          cases d with
          | lst o2 zs =>
            cases o2 with
            | own =>
              show _ = extendK1 i zs ds1 (ds1[i]?)
              simp only
              cases ds1[i]? with
              | none => rfl
              | some o => cases o with
                | none => rfl
                | some u => cases u with
                  | lst oo es => cases oo <;> simp [extendK1]
                  | _ => rfl
            | fro =>
              show _ = extendK1 i zs ds1 (ds1[i]?)
              simp only
              cases ds1[i]? with
              | none => rfl
              | some o => cases o with
                | none => rfl
                | some u => cases u with
                  | lst oo es => cases oo <;> simp [extendK1]
                  | _ => rfl
            | ext =>
              simp only [extendK0]
              cases ds1[i]? with
              | none => rfl
              | some o => cases o with
                | none => rfl
                | some u => cases u with
                  | lst oo es => cases oo <;> simp
                  | _ => rfl
          | _ => rfl
      | _ => rfl
def popK2 (i : Nat) (ds : DS) (es : List D) : Option D → R1
  | some d => some (d, ds.set i (some (.lst .own es.dropLast)))
  | none => none
def popK (i : Nat) (ds : DS) : Option (Option D) → R1
  | some (some (.lst .own es)) => popK2 i ds es es[es.length - 1]?
  | _ => none
theorem mPop_k : mPop i ds = popK i ds (ds[i]?) := by
  unfold mPop
  cases ds[i]? with
  | none => rfl
  | some o => cases o with
    | none => rfl
    | some u => cases u with
      | lst oo es => cases oo with
        | own => show _ = popK2 i ds es es[es.length - 1]?; simp only; cases es[es.length - 1]? <;> rfl
        | _ => rfl
      | _ => rfl
def clearK (i : Nat) (ds : DS) : Option (Option D) → Option Out
  | some (some (.lst .own _)) => some (.nx (ds.set i (some (.lst .own []))))
  | _ => none
theorem mClear_k : mClear i ds = clearK i ds (ds[i]?) := nrfl
def lookAK (i : Nat) (mb : ME) (ds : DS) : Bool → R1
  | true => mLook i dKx mb ds
  | false => mLook i dIx mb ds
theorem mLookA_k : mLookA i mb ds = lookAK i mb ds (isDic ds[i]?) := nrfl
def lookRK2 (g : D → D → Option D) (e : D) (ds : DS) : Option (Option D) → R1
  | some (some d) => lookK3 e ds (g d e)
  | _ => none
def lookRK (i : Nat) (g : D → D → Option D) : R1 → R1
  | some (e, ds) => lookRK2 g e ds (ds[i]?)
  | none => none
theorem mLookR_k : mLookR i g ma ds = lookRK i g (ma ds) := by
  unfold mLookR
  cases ma ds with
  | none => rfl
  | some q =>
    obtain ⟨e, ds1⟩ := q
    show _ = lookRK2 g e ds1 (ds1[i]?)
    simp only
    cases ds1[i]? with
    | none => rfl
    | some o => cases o with
      | none => rfl
      | some d => show _ = lookK3 e ds1 (g d e); simp only; cases g d e <;> rfl
def inVK (b : Bool) (i : Nat) (ma : ME) (ds : DS) : Bool → R1
  | true => mLookR i (dKin b) ma ds
  | false => mLookR i (dInF b) ma ds
theorem mInV_k {c : Bool} : mInV c i ma ds = inVK c i ma ds (isDic ds[i]?) := nrfl
def pairsK4 (k : Key) (d : D) : Option (List (Key × D) × DS) → Option (List (Key × D) × DS)
  | some (l, ds) => some ((k, d) :: l, ds)
  | none => none
def pairsK3 (r : List (ME × ME)) (k : Key) : R1 → Option (List (Key × D) × DS)
  | some (d, ds) => pairsK4 k d (mPairs r ds)
  | none => none
def pairsK2 (mv : ME) (r : List (ME × ME)) (ds : DS) : Option Key → Option (List (Key × D) × DS)
  | some k => pairsK3 r k (mv ds)
  | none => none
def pairsK (mv : ME) (r : List (ME × ME)) : R1 → Option (List (Key × D) × DS)
  | some (e, ds) => pairsK2 mv r ds (dKey e)
  | none => none
theorem mPairs_nil : mPairs [] ds = some ([], ds) := nrfl
theorem mPairs_cons {r : List (ME × ME)} : mPairs ((ma, mb) :: r) ds = pairsK mb r (ma ds) := by
  rw [mPairs]
  cases ma ds with
  | none => rfl
  | some q =>
    obtain ⟨e, ds1⟩ := q
    show _ = pairsK2 mb r ds1 (dKey e)
    simp only
    cases dKey e with
    | none => rfl
    | some k =>
      show _ = pairsK3 r k (mb ds1)
      simp only
      cases mb ds1 with
      | none => rfl
      | some q => obtain ⟨d, ds2⟩ := q; show _ = pairsK4 k d (mPairs r ds2); simp only; cases mPairs r ds2 <;> rfl
def dispK2 (ds : DS) : Option (List Key × List D) → R1
  | some (ks, es) => some (.dic .own ks es, ds)
  | none => none
def dispK : Option (List (Key × D) × DS) → R1
  | some (l, ds) => if l.length ≤ 15 then dispK2 ds (mergeD [] [] l) else none
  | none => none
theorem mDisp_k {l : List (ME × ME)} : mDisp l ds = dispK (mPairs l ds) := by
  unfold mDisp
  cases mPairs l ds with
  | none => rfl
  | some q =>
    obtain ⟨l1, ds1⟩ := q
    show _ = (if l1.length ≤ 15 then dispK2 ds1 (mergeD [] [] l1) else none)
    simp only
    split
    · cases mergeD [] [] l1 <;> rfl
    · rfl
theorem dMin2_1 {i j : Int} : dMin2 [.v (.int i), .v (.int j)] = some (.v (.int (if j < i then j else i))) := nrfl
theorem dMax2_1 {i j : Int} : dMax2 [.v (.int i), .v (.int j)] = some (.v (.int (if j > i then j else i))) := nrfl
theorem dAbs_1 {i : Int} : dAbs [.v (.int i)] = some (.v (.int (if i < 0 then -i else i))) := nrfl
theorem dIntF_1 {i : Int} : dIntF [.v (.int i)] = some (.v (.int i)) := nrfl
theorem dIntF_2 {c : Bool} : dIntF [.v (.bl c)] = some (.v (.int (if c then 1 else 0))) := nrfl
theorem isDic_d {o : O} {ks : List Key} {es : List D} : isDic (some (some (.dic o ks es))) = true := nrfl
theorem isDic_v {x : V} : isDic (some (some (.v x))) = false := nrfl
theorem isDic_t {es : List D} : isDic (some (some (.tup es))) = false := nrfl
theorem isDic_k {es : List D} : isDic (some (some (.ktp es))) = false := nrfl
theorem isDic_l {o : O} {es : List D} : isDic (some (some (.lst o es))) = false := nrfl
theorem dKey_i {i : Int} : dKey (.v (.int i)) = some (.inl i) := nrfl
theorem dKey_s {s : Str} : dKey (.v (.str s)) = some (.inr s) := nrfl
theorem dKx_i {o : O} {ks : List Key} {es : List D} {i : Int} : dKx (.dic o ks es) (.v (.int i)) = getD_ ks es (.inl i) := nrfl
theorem dKx_s {o : O} {ks : List Key} {es : List D} {s : Str} : dKx (.dic o ks es) (.v (.str s)) = getD_ ks es (.inr s) := nrfl
theorem dKin_i {o : O} {ks : List Key} {es : List D} {i : Int} {c : Bool} : dKin c (.dic o ks es) (.v (.int i)) = some (.v (.bl (if c then hasK ks (.inl i) else !hasK ks (.inl i)))) := nrfl
theorem dKin_s {o : O} {ks : List Key} {es : List D} {s : Str} {c : Bool} : dKin c (.dic o ks es) (.v (.str s)) = some (.v (.bl (if c then hasK ks (.inr s) else !hasK ks (.inr s)))) := nrfl
theorem getD_nil {k : Key} : getD_ ([] : List Key) [] k = none := nrfl
theorem getD_cons {k0 k : Key} {ks : List Key} {d : D} {es : List D} : getD_ (k0 :: ks) (d :: es) k = if k0 = k then some d else getD_ ks es k := nrfl
theorem hasK_nil {k : Key} : hasK ([] : List Key) k = false := nrfl
theorem hasK_cons {κ : Type} [DecidableEq κ] {k0 k : κ} {ks : List κ} : hasK (k0 :: ks) k = (decide (k0 = k) || hasK ks k) := by
  unfold hasK; by_cases h : k0 = k
  · simp [h]
  · have : ¬ k = k0 := fun z => h z.symm
    simp [h, this]
theorem putD_eq {κ : Type} [DecidableEq κ] {ks : List κ} {es : List D} {k : κ} {d : D} : putD ks es k d = if hasK ks k = true then (if clean d then some (ks, repD ks es k d) else none) else some (ks ++ [k], es ++ [d]) := by
  by_cases h : k ∈ ks
  · have e : hasK ks k = true := decide_eq_true h
    rw [if_pos e]; unfold putD; rw [if_pos h]
  · have e : ¬ hasK ks k = true := fun z => h (of_decide_eq_true z)
    rw [if_neg e]; unfold putD; rw [if_neg h]
def mergeK_ (r : List (Key × D)) : Option (List Key × List D) → Option (List Key × List D)
  | some (ks, es) => mergeD ks es r
  | none => none
theorem mergeD_nil {ks : List Key} {es : List D} : mergeD ks es [] = some (ks, es) := nrfl
theorem mergeD_cons {ks : List Key} {es : List D} {k : Key} {d : D} {r : List (Key × D)} : mergeD ks es ((k, d) :: r) = mergeK_ r (putD ks es k d) := by rw [mergeD]; cases putD ks es k d <;> rfl
def parK2 (j : Nat) (e : D) : Option DS → Option Out
  | some ds => setK j e ds
  | none => none
def parK (i j : Nat) : Option (List D × DS) → Option Out
  | some ([d, e], ds) => parK2 j e (setSlot i d ds)
  | _ => none
theorem mPar_k : mPar i j mr ds = parK i j (mr ds) := by
  unfold mPar
  cases mr ds with
  | none => rfl
  | some q =>
    obtain ⟨l, ds1⟩ := q
    match l with
    | [] => rfl
    | [_] => rfl
    | [d, e] =>
      show _ = parK2 j e (setSlot i d ds1)
      simp only
      cases setSlot i d ds1 with
      | none => rfl
      | some ds2 => show _ = setK j e ds2; unfold setSlot setK; by_cases h : j < ds2.length <;> simp [h]
    | _ :: _ :: _ :: _ => rfl
def enumK : Option (List D × DS) → Option (List D × DS)
  | some ([.lst _ es], ds) => if cleans (fzs es) then some (enumD 0 (fzs es), ds) else none
  | _ => none
theorem mEnum_k : mEnum mr ds = enumK (mr ds) := nrfl
def zipK : Option (List D × DS) → Option (List D × DS)
  | some ([.lst _ es, .lst _ es2], ds) => if cleans (fzs es) && cleans (fzs es2) then some (zipD (fzs es) (fzs es2), ds) else none
  | _ => none
theorem mZip_k : mZip mr ds = zipK (mr ds) := nrfl
def lookLK (i : Nat) (g : D → D → Option D) (mb : ME) (ds : DS) : Option (Option D) → R1
  | some (some (.lst _ _)) => mLook i g mb ds
  | _ => none
theorem mLookL_k : mLookL i g mb ds = lookLK i g mb ds (ds[i]?) := nrfl
def mtK2 (g : Str → List D → Option D) (a : Str) : Option (List D × DS) → R1
  | some (es, ds) => opK3 ds (g a es)
  | none => none
def mtK (g : Str → List D → Option D) (r : MA) : R1 → R1
  | some (.v (.str a), ds) => mtK2 g a (r ds)
  | _ => none
theorem mMt_k {g : Str → List D → Option D} : mMt g m mr ds = mtK g mr (m ds) := by
  unfold mMt
  cases m ds with
  | none => rfl
  | some q =>
    obtain ⟨d, ds1⟩ := q
    cases d with
    | v x =>
      cases x with
      | str a =>
        show _ = mtK2 g a (mr ds1)
        simp only
        cases mr ds1 with
        | none => rfl
        | some q => obtain ⟨es, ds2⟩ := q; show _ = opK3 ds2 (g a es); simp only; cases g a es <;> rfl
      | _ => rfl
    | _ => rfl
theorem itemsS_1 {s : Str} : itemsS (.v (.str s)) = some (s.cps.toList.map fun c => .v (.str ⟨#[c]⟩)) := nrfl
theorem dJoin_1 {a : Str} {o : O} {es : List D} {ys : List Str} (h : strsD es = some ys) (h2 : (ys.map (·.length)).sum + ys.length * a.length ≤ 16777216) : dJoin a [.lst o es] = some (.v (.str (Txt.join a ys))) := by unfold dJoin; simp only [h, if_pos h2]
theorem dStrF_1 {i : Int} (h : i.natAbs.log2 < 1920) : dStrF [.v (.int i)] = some (.v (.str (toString i))) := by unfold dStrF; simp only [if_pos h]
theorem dAdd_str {a b : Str} (h : a.length + b.length ≤ 16777216) : dAdd (.v (.str a)) (.v (.str b)) = some (.v (.str (a ++ b))) := by unfold dAdd; simp only [if_pos h]
theorem enumD_nil {k : Nat} : enumD k [] = [] := nrfl
theorem enumD_cons {k : Nat} {es : List D} {e : D} : enumD k (e :: es) = .tup [.v (.int (k : Nat)), e] :: enumD (k + 1) es := nrfl
def orFzK (i : Nat) (m : ME) (ds : DS) : R1 → R1
  | some r => some r
  | none => m (fzAt i ds)
theorem orFz_k : orFz i m ds = orFzK i m ds (m ds) := by unfold orFz; cases m ds <;> rfl
def fzAtK (i : Nat) (ds : DS) : Option (Option D) → DS
  | some (some d) => if clean (fz d) then ds.set i (some (fz d)) else ds
  | _ => ds
theorem fzAt_k : fzAt i ds = fzAtK i ds (ds[i]?) := by unfold fzAt; cases ds[i]? with
  | none => rfl
  | some o => cases o <;> rfl
def frzK : R1 → R1
  | some (d, ds) => if clean (fz d) then some (fz d, ds) else none
  | none => none
theorem mFrz_k : mFrz m ds = frzK (m ds) := nrfl
def putKK5 (i : Nat) (ks : List Key) (ds : DS) : Option (List Key × List D) → Option Out
  | some (ks', es') => if ks.length < 10000000 then some (.nx (ds.set i (some (.dic .own ks' es')))) else none
  | none => none
def putKK4 (i : Nat) (d : D) (k : Key) (ds : DS) : Option (Option D) → Option Out
  | some (some (.dic .own ks es)) => putKK5 i ks ds (putD ks es k d)
  | _ => none
def putKK3 (i : Nat) (d : D) (ds : DS) : Option Key → Option Out
  | some k => putKK4 i d k ds (ds[i]?)
  | none => none
def putKK2 (i : Nat) (d : D) : R1 → Option Out
  | some (e, ds) => putKK3 i d ds (dKey e)
  | none => none
def putKK1 (i : Nat) (mi : ME) (d : D) (ds : DS) : Option (Option D) → Option Out
  | some (some _) => putKK2 i d (mi ds)
  | _ => none
def putKK (i : Nat) (mi : ME) : R1 → Option Out
  | some (d, ds) => putKK1 i mi d ds (ds[i]?)
  | none => none
theorem mPutK_k : mPutK i ma mb ds = putKK i ma (mb ds) := by
  unfold mPutK
  cases mb ds with
  | none => rfl
  | some q =>
    obtain ⟨d, ds1⟩ := q
    show _ = putKK1 i ma d ds1 (ds1[i]?)
    simp only
    cases ds1[i]? with
    | none => rfl
    | some o => cases o with
      | none => rfl
      | some _ =>
        show _ = putKK2 i d (ma ds1)
        simp only
        cases ma ds1 with
        | none => rfl
        | some q =>
          obtain ⟨e, ds2⟩ := q
          show _ = putKK3 i d ds2 (dKey e)
          simp only
          cases dKey e with
          | none => rfl
          | some k =>
            show _ = putKK4 i d k ds2 (ds2[i]?)
            simp only
            cases ds2[i]? with
            | none => rfl
            | some o => cases o with
              | none => rfl
              | some u => cases u with
                | dic oo ks es => cases oo with
                  | own => show _ = putKK5 i ks ds2 (putD ks es k d); simp only; cases putD ks es k d <;> rfl
                  | _ => rfl
                | _ => rfl
theorem mNewK_k : mNewK ds = some (.dic .own [] [], ds) := nrfl
theorem dDictD_1 {o : O} {ks : List Key} {es : List D} (h : cleans es = true) : dDictD [.dic o ks es] = some (.dic .own ks es) := by simp [dDictD, h]
end
end Z
namespace Z
open PySem L2
theorem seqK_1 : seqK b (some (.nx ds)) = b ds := nrfl
theorem seqK_2 : seqK b (some (.bk ds)) = some (.bk ds) := nrfl
theorem seqK_3 : seqK b (some (.ct ds)) = some (.ct ds) := nrfl
theorem seqK_4 : seqK b (some (.rt d ds)) = some (.rt d ds) := nrfl
theorem seqK_5 : seqK b (none) = none := nrfl
theorem ifK_1 : ifK a b (some (true, ds)) = a ds := nrfl
theorem ifK_2 : ifK a b (some (false, ds)) = b ds := nrfl
theorem ifK_3 : ifK a b (none) = none := nrfl
theorem opK3_1 : opK3 ds (some d) = some (d, ds) := nrfl
theorem opK3_2 : opK3 ds (none) = none := nrfl
theorem opK2_1 : opK2 g d (some (e, ds)) = opK3 ds (g d e) := nrfl
theorem opK2_2 : opK2 g d (none) = none := nrfl
theorem opK_1 : opK g mb (some (d, ds)) = opK2 g d (mb ds) := nrfl
theorem opK_2 : opK g mb (none) = none := nrfl
theorem lookK3_1 : lookK3 e ds (some d') = if clean d' && clean e then some (d', ds) else none := nrfl
theorem lookK3_2 : lookK3 e ds (none) = none := nrfl
theorem lookK2_1 : lookK2 g e ds (some (some d)) = lookK3 e ds (g d e) := nrfl
theorem lookK2_2 : lookK2 g e ds (none) = none := nrfl
theorem lookK1_1 : lookK1 i g (some (e, ds)) = lookK2 g e ds (ds[i]?) := nrfl
theorem lookK1_2 : lookK1 i g (none) = none := nrfl
theorem lookK_1 : lookK i g mb ds (some (some zz1)) = lookK1 i g (mb ds) := nrfl
theorem lookK_2 : lookK i g mb ds (none) = none := nrfl
theorem varK_1 : varK i ds (some (some d)) = if clean d then some (d, ds) else if clean (fz d) then some (fz d, ds.set i (some (fz d))) else none := nrfl
theorem varK_2 : varK i ds (none) = none := nrfl
theorem moveK_1 : moveK i ds (some (some d)) = some (d, ds.set i none) := nrfl
theorem moveK_2 : moveK i ds (none) = none := nrfl
theorem tstK_1 : tstK  (some (.v (.bl b), ds)) = some (b, ds) := nrfl
theorem tstK_2 : tstK  (none) = none := nrfl
theorem andK_1 : andK b (some (true, ds)) = b ds := nrfl
theorem andK_2 : andK b (some (false, ds)) = some (false, ds) := nrfl
theorem andK_3 : andK b (none) = none := nrfl
theorem orK_1 : orK b (some (true, ds)) = some (true, ds) := nrfl
theorem orK_2 : orK b (some (false, ds)) = b ds := nrfl
theorem orK_3 : orK b (none) = none := nrfl
theorem notK_1 : notK  (some (b, ds)) = some (!b, ds) := nrfl
theorem notK_2 : notK  (none) = none := nrfl
theorem andVK_1 : andVK b (some (.v (.bl true), ds)) = b ds := nrfl
theorem andVK_2 : andVK b (some (.v (.bl false), ds)) = some (.v (.bl false), ds) := nrfl
theorem andVK_3 : andVK b (none) = none := nrfl
theorem orVK_1 : orVK b (some (.v (.bl true), ds)) = some (.v (.bl true), ds) := nrfl
theorem orVK_2 : orVK b (some (.v (.bl false), ds)) = b ds := nrfl
theorem orVK_3 : orVK b (none) = none := nrfl
theorem notVK_1 : notVK  (some (.v (.bl b), ds)) = some (.v (.bl (!b)), ds) := nrfl
theorem notVK_2 : notVK  (none) = none := nrfl
theorem negK_1 : negK  (some (.v (.int i), ds)) = some (.v (.int (-i)), ds) := nrfl
theorem negK_2 : negK  (none) = none := nrfl
theorem asgK_1 : asgK i (some (d, ds)) = setK i d ds := nrfl
theorem asgK_2 : asgK i (none) = none := nrfl
theorem retK_1 : retK  (some (d, ds)) = some (.rt d ds) := nrfl
theorem retK_2 : retK  (none) = none := nrfl
theorem dropK_1 : dropK  (some (zz1, ds)) = some (.nx ds) := nrfl
theorem dropK_2 : dropK  (none) = none := nrfl
theorem consK2_1 : consK2 d (some (es, ds)) = some (d :: es, ds) := nrfl
theorem consK2_2 : consK2 d (none) = none := nrfl
theorem consK_1 : consK r (some (d, ds)) = consK2 d (r ds) := nrfl
theorem consK_2 : consK r (none) = none := nrfl
theorem fnK_1 : fnK f (some (es, ds)) = opK3 ds (f es) := nrfl
theorem fnK_2 : fnK f (none) = none := nrfl
theorem setIxK3_1 : setIxK3 i d ds es (some j) = some (.nx (ds.set i (some (.lst .own (es.set j d))))) := nrfl
theorem setIxK3_2 : setIxK3 i d ds es (none) = none := nrfl
theorem setIxK2_1 : setIxK2 i d k ds (some (some (.lst .own es))) = setIxK3 i d ds es (ixN es.length k) := nrfl
theorem setIxK2_2 : setIxK2 i d k ds (none) = none := nrfl
theorem setIxK1_1 : setIxK1 i d (some (.v (.int k), ds)) = setIxK2 i d k ds (ds[i]?) := nrfl
theorem setIxK1_2 : setIxK1 i d (none) = none := nrfl
theorem setIxK0_1 : setIxK0 i mi d ds (some (some zz1)) = setIxK1 i d (mi ds) := nrfl
theorem setIxK0_2 : setIxK0 i mi d ds (none) = none := nrfl
theorem setIxK_1 : setIxK i mi (some (d, ds)) = setIxK0 i mi d ds (ds[i]?) := nrfl
theorem setIxK_2 : setIxK i mi (none) = none := nrfl
theorem augK2_1 : augK2 i g a (some (.v (.int b), ds)) = setK i (.v (.int (g a b))) ds := nrfl
theorem augK2_2 : augK2 i g a (none) = none := nrfl
theorem augK_1 : augK i g m ds (some (some (.v (.int a)))) = augK2 i g a (m ds) := nrfl
theorem augK_2 : augK i g m ds (none) = none := nrfl
theorem appendK1_1 : appendK1 i d ds (some (some (.lst .own es))) = if es.length < 10000000 then some (.nx (ds.set i (some (.lst .own (es ++ [d]))))) else none := nrfl
theorem appendK1_2 : appendK1 i d ds (none) = none := nrfl
theorem appendK0_1 : appendK0 i (some (d, ds)) = appendK1 i d ds (ds[i]?) := nrfl
theorem appendK0_2 : appendK0 i (none) = none := nrfl
theorem appendK_1 : appendK i m ds (some (some (.lst zz1 zz2))) = appendK0 i (m ds) := nrfl
theorem appendK_2 : appendK i m ds (none) = none := nrfl
theorem asgTK2_1 : asgTK2  (some ds) = some (.nx ds) := nrfl
theorem asgTK2_2 : asgTK2  (none) = none := nrfl
theorem asgTK_1 : asgTK a (some (d, ds)) = if clean d then asgTK2 (a d ds) else none := nrfl
theorem asgTK_2 : asgTK a (none) = none := nrfl
theorem itK2_1 : itK2 ds (some es) = some (es, ds) := nrfl
theorem itK2_2 : itK2 ds (none) = none := nrfl
theorem itK_1 : itK f (some (d, ds)) = itK2 ds (f d) := nrfl
theorem itK_2 : itK f (none) = none := nrfl
theorem rngK_1 : rngK  (some (es, ds)) = itK2 ds (mRng es) := nrfl
theorem rngK_2 : rngK  (none) = none := nrfl
theorem forK_1 : forK a b (some (items, ds)) = forL a b items ds := nrfl
theorem forK_2 : forK a b (none) = none := nrfl
theorem turnK_1 : turnK a b r (some (.nx ds)) = forL a b r ds := nrfl
theorem turnK_2 : turnK a b r (some (.ct ds)) = forL a b r ds := nrfl
theorem turnK_3 : turnK a b r (some (.bk ds)) = some (.nx ds) := nrfl
theorem turnK_4 : turnK a b r (some (.rt d ds)) = some (.rt d ds) := nrfl
theorem turnK_5 : turnK a b r (none) = none := nrfl
theorem turnK0_1 : turnK0 a b r (some ds) = turnK a b r (b ds) := nrfl
theorem turnK0_2 : turnK0 a b r (none) = none := nrfl
theorem lcK1_1 : lcK1  (some (es, ds)) = some (.lst .own es, ds) := nrfl
theorem lcK1_2 : lcK1  (none) = none := nrfl
theorem lcK_1 : lcK a t m ws (some (items, ds)) = if items.length ≤ 1000000 then lcK1 (lcL a t m ws items (wipeD ds ws)) else none := nrfl
theorem lcK_2 : lcK a t m ws (none) = none := nrfl
theorem lcT2_1 : lcT2 a t m ws r (some (d, ds)) = consK2 d (lcL a t m ws r (wipeD ds ws)) := nrfl
theorem lcT2_2 : lcT2 a t m ws r (none) = none := nrfl
theorem lcT1_1 : lcT1 a t m ws r (some (true, ds)) = lcT2 a t m ws r (m ds) := nrfl
theorem lcT1_2 : lcT1 a t m ws r (some (false, ds)) = lcL a t m ws r (wipeD ds ws) := nrfl
theorem lcT1_3 : lcT1 a t m ws r (none) = none := nrfl
theorem lcT0_1 : lcT0 a t m ws r (some ds) = lcT1 a t m ws r (t ds) := nrfl
theorem lcT0_2 : lcT0 a t m ws r (none) = none := nrfl
theorem callK2_1 : callK2 rs as ds (some (d, qs)) = some (d, put rs as qs ds) := nrfl
theorem callK2_2 : callK2 rs as ds (none) = none := nrfl
theorem callK1_1 : callK1 F rs (some (as, ds)) = callK2 rs as ds (F as) := nrfl
theorem callK1_2 : callK1 F rs (none) = none := nrfl
theorem callK_1 : callK F (some (rs, ds)) = callK1 F rs (take rs ds) := nrfl
theorem callK_2 : callK F (none) = none := nrfl
theorem argK2_1 : argK2 x (some (rs, ds)) = some (x :: rs, ds) := nrfl
theorem argK2_2 : argK2 x (none) = none := nrfl
theorem argK_1 : argK r (some (d, ds)) = argK2 (.inr d) (mArgs r ds) := nrfl
theorem argK_2 : argK r (none) = none := nrfl
theorem argB_1 : argB i r ds (some (some zz1)) = argK2 (.inl i) (mArgs r ds) := nrfl
theorem argB_2 : argB i r ds (none) = none := nrfl
theorem takeK_1 : takeK d (some (es, ds)) = some (d :: es, ds) := nrfl
theorem takeK_2 : takeK d (none) = none := nrfl
theorem takeB_1 : takeB i r ds (some (some d)) = takeK d (take r (if clean d then ds else ds.set i none)) := nrfl
theorem takeB_2 : takeB i r ds (none) = none := nrfl
theorem fnMK_1 : fnMK fx as (some (.rt d ds)) = some (d, outs fx 0 as ds) := nrfl
theorem fnMK_2 : fnMK fx as (some (.nx ds)) = some (.v .non, outs fx 0 as ds) := nrfl
theorem fnMK_3 : fnMK fx as (none) = none := nrfl
theorem isNK_1 : isNK b (some (d, ds)) = some (.v (.bl (if b then isN d else !isN d)), ds) := nrfl
theorem isNK_2 : isNK b (none) = none := nrfl
theorem isNVK_1 : isNVK b ds (some (some d)) = some (.v (.bl (if b then isN d else !isN d)), ds) := nrfl
theorem isNVK_2 : isNVK b ds (none) = none := nrfl
theorem chnK3_1 : chnK3 p' j (some (.v (.int k), ds)) = some (.v (.bl (p' j k)), ds) := nrfl
theorem chnK3_2 : chnK3 p' j (none) = none := nrfl
theorem chnK2_1 : chnK2 p p' mc i (some (.v (.int j), ds)) = if p i j = true then chnK3 p' j (mc ds) else some (.v (.bl false), ds) := nrfl
theorem chnK2_2 : chnK2 p p' mc i (none) = none := nrfl
theorem chnK_1 : chnK p p' mb mc (some (.v (.int i), ds)) = chnK2 p p' mc i (mb ds) := nrfl
theorem chnK_2 : chnK p p' mb mc (none) = none := nrfl
theorem revK_1 : revK  (some (.lst zz1 es, ds)) = if cleans es then some (.lst .own es.reverse, ds) else none := nrfl
theorem revK_2 : revK  (none) = none := nrfl
theorem extendK1_1 : extendK1 i zs ds (some (some (.lst .own es))) = if es.length + zs.length < 10000000 then some (.nx (ds.set i (some (.lst .own (es ++ zs))))) else none := nrfl
theorem extendK1_2 : extendK1 i zs ds (none) = none := nrfl
theorem extendK0_1 : extendK0 i (some (.lst .own zs, ds)) = extendK1 i zs ds (ds[i]?) := nrfl
theorem extendK0_2 : extendK0 i (some (.lst .fro zs, ds)) = extendK1 i zs ds (ds[i]?) := nrfl
theorem extendK0_3 : extendK0 i (none) = none := nrfl
theorem extendK_1 : extendK i m ds (some (some (.lst zz1 zz2))) = extendK0 i (m ds) := nrfl
theorem extendK_2 : extendK i m ds (none) = none := nrfl
theorem popK2_1 : popK2 i ds es (some d) = some (d, ds.set i (some (.lst .own es.dropLast))) := nrfl
theorem popK2_2 : popK2 i ds es (none) = none := nrfl
theorem popK_1 : popK i ds (some (some (.lst .own es))) = popK2 i ds es es[es.length - 1]? := nrfl
theorem popK_2 : popK i ds (none) = none := nrfl
theorem clearK_1 : clearK i ds (some (some (.lst .own zz1))) = some (.nx (ds.set i (some (.lst .own [])))) := nrfl
theorem clearK_2 : clearK i ds (none) = none := nrfl
theorem lookAK_1 : lookAK i mb ds (true) = mLook i dKx mb ds := nrfl
theorem lookAK_2 : lookAK i mb ds (false) = mLook i dIx mb ds := nrfl
theorem lookRK2_1 : lookRK2 g e ds (some (some d)) = lookK3 e ds (g d e) := nrfl
theorem lookRK2_2 : lookRK2 g e ds (none) = none := nrfl
theorem lookRK_1 : lookRK i g (some (e, ds)) = lookRK2 g e ds (ds[i]?) := nrfl
theorem lookRK_2 : lookRK i g (none) = none := nrfl
theorem inVK_1 : inVK b i ma ds (true) = mLookR i (dKin b) ma ds := nrfl
theorem inVK_2 : inVK b i ma ds (false) = mLookR i (dInF b) ma ds := nrfl
theorem pairsK4_1 : pairsK4 k d (some (l, ds)) = some ((k, d) :: l, ds) := nrfl
theorem pairsK4_2 : pairsK4 k d (none) = none := nrfl
theorem pairsK3_1 : pairsK3 r k (some (d, ds)) = pairsK4 k d (mPairs r ds) := nrfl
theorem pairsK3_2 : pairsK3 r k (none) = none := nrfl
theorem pairsK2_1 : pairsK2 mv r ds (some k) = pairsK3 r k (mv ds) := nrfl
theorem pairsK2_2 : pairsK2 mv r ds (none) = none := nrfl
theorem pairsK_1 : pairsK mv r (some (e, ds)) = pairsK2 mv r ds (dKey e) := nrfl
theorem pairsK_2 : pairsK mv r (none) = none := nrfl
theorem dispK2_1 : dispK2 ds (some (ks, es)) = some (.dic .own ks es, ds) := nrfl
theorem dispK2_2 : dispK2 ds (none) = none := nrfl
theorem dispK_1 : dispK  (some (l, ds)) = if l.length ≤ 15 then dispK2 ds (mergeD [] [] l) else none := nrfl
theorem dispK_2 : dispK  (none) = none := nrfl
theorem mergeK__1 : mergeK_ r (some (ks, es)) = mergeD ks es r := nrfl
theorem mergeK__2 : mergeK_ r (none) = none := nrfl
theorem parK2_1 : parK2 j e (some ds) = setK j e ds := nrfl
theorem parK2_2 : parK2 j e (none) = none := nrfl
theorem parK_1 : parK i j (some ([d, e], ds)) = parK2 j e (setSlot i d ds) := nrfl
theorem parK_2 : parK i j (none) = none := nrfl
theorem enumK_1 : enumK  (some ([.lst zz1 es], ds)) = if cleans (fzs es) then some (enumD 0 (fzs es), ds) else none := nrfl
theorem enumK_2 : enumK  (none) = none := nrfl
theorem zipK_1 : zipK  (some ([.lst zz1 es, .lst zz2 es2], ds)) = if cleans (fzs es) && cleans (fzs es2) then some (zipD (fzs es) (fzs es2), ds) else none := nrfl
theorem zipK_2 : zipK  (none) = none := nrfl
theorem lookLK_1 : lookLK i g mb ds (some (some (.lst zz1 zz2))) = mLook i g mb ds := nrfl
theorem lookLK_2 : lookLK i g mb ds (none) = none := nrfl
theorem mtK2_1 : mtK2 g a (some (es, ds)) = opK3 ds (g a es) := nrfl
theorem mtK2_2 : mtK2 g a (none) = none := nrfl
theorem mtK_1 : mtK g r (some (.v (.str a), ds)) = mtK2 g a (r ds) := nrfl
theorem mtK_2 : mtK g r (none) = none := nrfl
theorem orFzK_1 : orFzK i m ds (some r) = some r := nrfl
theorem orFzK_2 : orFzK i m ds (none) = m (fzAt i ds) := nrfl
theorem fzAtK_1 : fzAtK i ds (some (some d)) = if clean (fz d) then ds.set i (some (fz d)) else ds := nrfl
theorem fzAtK_2 : fzAtK i ds (none) = ds := nrfl
theorem frzK_1 : frzK  (some (d, ds)) = if clean (fz d) then some (fz d, ds) else none := nrfl
theorem frzK_2 : frzK  (none) = none := nrfl
theorem putKK5_1 : putKK5 i ks ds (some (ks', es')) = if ks.length < 10000000 then some (.nx (ds.set i (some (.dic .own ks' es')))) else none := nrfl
theorem putKK5_2 : putKK5 i ks ds (none) = none := nrfl
theorem putKK4_1 : putKK4 i d k ds (some (some (.dic .own ks es))) = putKK5 i ks ds (putD ks es k d) := nrfl
theorem putKK4_2 : putKK4 i d k ds (none) = none := nrfl
theorem putKK3_1 : putKK3 i d ds (some k) = putKK4 i d k ds (ds[i]?) := nrfl
theorem putKK3_2 : putKK3 i d ds (none) = none := nrfl
theorem putKK2_1 : putKK2 i d (some (e, ds)) = putKK3 i d ds (dKey e) := nrfl
theorem putKK2_2 : putKK2 i d (none) = none := nrfl
theorem putKK1_1 : putKK1 i mi d ds (some (some zz1)) = putKK2 i d (mi ds) := nrfl
theorem putKK1_2 : putKK1 i mi d ds (none) = none := nrfl
theorem putKK_1 : putKK i mi (some (d, ds)) = putKK1 i mi d ds (ds[i]?) := nrfl
theorem putKK_2 : putKK i mi (none) = none := nrfl
theorem dIx_l : dIx (.lst o es) (.v (.int i)) = L2.atI es i := nrfl
theorem dIx_t : dIx (.tup es) (.v (.int i)) = L2.atI es i := nrfl
theorem dIx_k : dIx (.ktp es) (.v (.int i)) = L2.atI es i := nrfl
theorem gNl_1 : gNl [] ds = some ds := nrfl
def csK (r : MGs) (es : List D) : Option DS → Option DS
  | some ds => r es ds
  | none => none
theorem csK_1 : csK r es (some ds) = r es ds := nrfl
theorem csK_2 : csK r es none = none := nrfl
theorem gCs_1 {a : MG} {r : MGs} {d : D} {es : List D} {ds : DS} : gCs a r (d :: es) ds = csK r es (a d ds) := by show (match a d ds with | some ds1 => r es ds1 | none => none) = _; cases a d ds <;> rfl
theorem gTu_1 : gTu n m (.tup es) ds = if es.length = n then m es ds else none := nrfl
theorem itemsL_1 : itemsL (.lst o es) = if cleans (fzs es) then some (fzs es) else none := nrfl
theorem itemsT_1 : itemsT (.tup es) = if cleans (fzs es) then some (fzs es) else none := nrfl
theorem mRng_1 : mRng [.v (.int j)] = if j < 1000000000 ∧ -1000000000 < j then some (rangeD 0 j.toNat) else none := nrfl
theorem mRng_2 : mRng [.v (.int i), .v (.int j)] = if i < 1000000000 ∧ -1000000000 < i ∧ j < 1000000000 ∧ -1000000000 < j then some (rangeD i (j - i).toNat) else none := nrfl
theorem dTup_1 {es : List D} (h : es.length ≤ 100000) : dTup es = some (.tup es) := by unfold dTup; rw [if_pos h]
theorem dLst_1 {es : List D} (h : es.length ≤ 100000) : dLst es = some (.lst .own es) := by unfold dLst; rw [if_pos h]
theorem setSlot_1 {i : Nat} {d : D} {ds : DS} (h : i < ds.length) : setSlot i d ds = some (ds.set i (some d)) := by unfold setSlot; rw [if_pos h]
theorem setK_1 {i : Nat} {d : D} {ds : DS} (h : i < ds.length) : setK i d ds = some (.nx (ds.set i (some d))) := by unfold setK; rw [if_pos h]
theorem gNm_1 : gNm i d ds = setSlot i d ds := nrfl
theorem dLen_l : dLen [.lst o es] = some (.v (.int es.length)) := nrfl
theorem dLen_t : dLen [.tup es] = some (.v (.int es.length)) := nrfl
theorem dTuple_l {o : O} {es : List D} (h : cleans es = true) : dTuple [.lst o es] = some (.tup es) := by simp [dTuple, h]
theorem dTuple_t : dTuple [.tup es] = some (.tup es) := nrfl
theorem dList_l {o : O} {es : List D} (h : cleans es = true) : dList [.lst o es] = some (.lst .own es) := by simp [dList, h]
theorem dList_t {es : List D} (h : cleans es = true) : dList [.tup es] = some (.lst .own es) := by simp [dList, h]
theorem oNo_1 : oNo ds = some (none, ds) := nrfl
def oK : R1 → Option (Option Int × DS)
  | some (.v (.int i), ds) => some (some i, ds)
  | _ => none
theorem oYes_k : oYes m ds = oK (m ds) := nrfl
theorem oK_1 : oK (some (.v (.int i), ds)) = some (some i, ds) := nrfl
def slK3 (d : D) (l h : Option Int) (ds : DS) : R1 := opK3 ds (dCut d l h)
def slK2 (d : D) (l : Option Int) : Option (Option Int × DS) → R1
  | some (h, ds) => opK3 ds (dCut d l h)
  | none => none
def slK1 (d : D) (hi : MO) : Option (Option Int × DS) → R1
  | some (l, ds) => slK2 d l (hi ds)
  | none => none
def slK (lo hi : MO) : R1 → R1
  | some (d, ds) => if clean d then slK1 d hi (lo ds) else none
  | none => none
theorem mSl_k {m : ME} {lo hi : MO} {ds : DS} : mSl m lo hi ds = slK lo hi (m ds) := by
  unfold mSl; cases m ds with
  | none => rfl
  | some p =>
    obtain ⟨d, ds1⟩ := p
    show _ = (if clean d then slK1 d hi (lo ds1) else none)
    simp only
    split
    · cases lo ds1 with
      | none => rfl
      | some q =>
        obtain ⟨l, ds2⟩ := q
        show _ = slK2 d l (hi ds2)
        simp only
        cases hi ds2 with
        | none => rfl
        | some r => obtain ⟨h, ds3⟩ := r; show _ = opK3 ds3 (dCut d l h); simp only; cases dCut d l h <;> rfl
    · rfl
theorem slK_1 : slK lo hi (some (d, ds)) = if clean d then slK1 d hi (lo ds) else none := nrfl
theorem slK1_1 : slK1 d hi (some (l, ds)) = slK2 d l (hi ds) := nrfl
theorem slK2_1 : slK2 d l (some (h, ds)) = opK3 ds (dCut d l h) := nrfl
theorem dCut_l {o : O} {es : List D} {l h : Option Int} (c : cleans es = true) : dCut (.lst o es) l h = some (.lst .own (cutL es l h)) := by unfold dCut; simp [c]
theorem dCut_t {es : List D} {l h : Option Int} (c : cleans es = true) : dCut (.tup es) l h = some (.tup (cutL es l h)) := by unfold dCut; simp [c]
end Z
namespace My
open PySem PySem.Spec PyProof.Rows L2 Z
def topS (i : Nat) : Stmt := PySem.Challenge.pw_sayswho_k04_worths.main.body.getD i (.Pass ⟨0, 0, 0, 0⟩)
abbrev s_worth : Stmt := topS 1
abbrev N_worth : List Str := ["e", "values", "one", "other"]
theorem sc_worth : FnScope N_worth ["e", "values"] (defScope s_worth) := ⟨rfl, rfl, rfl, by decide +kernel, rfl, by decide +kernel, by decide +kernel⟩
def m_worth (R : List D → Option (D × DS)) : MS := (mSeq (mIf (mTst (mOp dEq (orFz 0 (mLook 0 dIx (mC (.int 0)))) (mC (.str "number")))) (mRet (orFz 0 (mLook 0 dIx (mC (.int 1))))) mSkip)
    (mSeq (mIf (mTst (mOp dEq (orFz 0 (mLook 0 dIx (mC (.int 0)))) (mC (.str "box")))) (mRet (orFz 1 (mLookA 1 (orFz 0 (mLook 0 dIx (mC (.int 1))))))) mSkip)
    (mSeq (mAsg 2 (mCall R [.ex (orFz 0 (mLook 0 dIx (mC (.int 1)))), .bo 1]))
    (mSeq (mAsg 3 (mCall R [.ex (orFz 0 (mLook 0 dIx (mC (.int 2)))), .bo 1]))
    (mSeq (mIf (mTst (mOp dEq (orFz 0 (mLook 0 dIx (mC (.int 0)))) (mC (.str "+")))) (mRet (mOp dAdd (mVar 2) (mVar 3))) mSkip)
    (mSeq (mIf (mTst (mOp dEq (orFz 0 (mLook 0 dIx (mC (.int 0)))) (mC (.str "-")))) (mRet (mOp dSub (mVar 2) (mVar 3))) mSkip)
    (mRet (mOp dMul (mVar 2) (mVar 3)))))))))
def F_worth : Nat → List D → Option (D × DS)
  | 0 => fun _ => none
  | n + 1 => fnM 2 4 (fxOf [0, 1]) (m_worth (F_worth n))
theorem ok_worth {P : Program} {w : World} {K : PySem.W.Frag} {mg : Str → Option Value} {base : Heap} {f : Addr} {fd : FuncData} (F : Fun K "worth" "worth" s_worth f fd) {nn : Nat} {R : List D → Option (D × DS)} (D_worth : Def P w K mg base (1 + nn) "worth" 2 R) : FnOk P w K mg base CX0 (1 + nn + 1) f fd ["e", "values"] (spF K mg 2 (fnM 2 4 (fxOf [0, 1]) (m_worth R))) := by
  refine ok_def' (fx := fxOf [0, 1]) (m := (m_worth R)) rfl rfl rfl F sc_worth fun cdv A outer s H E hr => ?_
  have nd := sc_worth.nd
  exact (xb_cons (xs_if (xt_eq hr.units (xe_orFz 0 (xe_ixv 0 xe_int)) xe_str) (xb_one (xs_ret (xe_orFz 0 (xe_ixv 0 xe_int)))) xb_nil)
        (xb_cons (xs_if (xt_eq hr.units (xe_orFz 0 (xe_ixv 0 xe_int)) xe_str) (xb_one (xs_ret (xe_orFz 1 (xe_ixa 1 (hu65 hr) (xe_orFz 0 (xe_ixv 0 xe_int)))))) xb_nil)
        (xb_cons (xs_set 2 nd (xe_call D_worth (hr.mono (by omega)) (xr_ex (xe_orFz 0 (xe_ixv 0 xe_int)) (xr_bo 1 xr_nil))))
        (xb_cons (xs_set 3 nd (xe_call D_worth (hr.mono (by omega)) (xr_ex (xe_orFz 0 (xe_ixv 0 xe_int)) (xr_bo 1 xr_nil))))
        (xb_cons (xs_if (xt_eq hr.units (xe_orFz 0 (xe_ixv 0 xe_int)) xe_str) (xb_one (xs_ret (xe_add (xv 2) (xv 3)))) xb_nil)
        (xb_cons (xs_if (xt_eq hr.units (xe_orFz 0 (xe_ixv 0 xe_int)) xe_str) (xb_one (xs_ret (xe_sub (xv 2) (xv 3)))) xb_nil)
        (xb_one (xs_ret (xe_mul (xv 2) (xv 3))))))))))
abbrev s__law_stir : Stmt := topS 3
abbrev N__law_stir : List Str := ["cell", "k", "number"]
theorem sc__law_stir : FnScope N__law_stir ["cell", "k"] (defScope s__law_stir) := ⟨rfl, rfl, rfl, by decide +kernel, rfl, by decide +kernel, by decide +kernel⟩
def m__law_stir : MS := (mSeq (mIf (mTst (mOp dGe (mVar 0) (mOp dPow (mC (.int 10)) (mC (.int 18))))) (mRet (mOp dMod (mOp dShr (mOp dSub (mVar 0) (mOp dPow (mC (.int 10)) (mC (.int 18)))) (mOp dMul (mC (.int 28)) (mVar 1))) (mOp dPow (mC (.int 2)) (mC (.int 28))))) mSkip)
    (mSeq (mAsg 2 (mOp dMod (mOp dMul (mOp dAdd (mOp dAdd (mVar 0) (mOp dMul (mC (.int 1013)) (mVar 1))) (mC (.int 1))) (mC (.int 16807))) (mC (.int 2147483647))))
    (mSeq (mAsg 2 (mOp dMod (mOp dMul (mVar 2) (mVar 2)) (mC (.int 2147483629))))
    (mRet (mOp dFdiv (mOp dMod (mOp dMul (mVar 2) (mC (.int 39373))) (mC (.int 2147483587))) (mC (.int 8)))))))
def F__law_stir : List D → Option (D × DS) := fnM 2 3 (fxOf [0, 1]) m__law_stir
theorem ok__law_stir {P : Program} {w : World} {K : PySem.W.Frag} {mg : Str → Option Value} {base : Heap} {f : Addr} {fd : FuncData} (F : Fun K "_law_stir" "_law_stir" s__law_stir f fd) : FnOk P w K mg base CX0 1 f fd ["cell", "k"] (spF K mg 2 F__law_stir) := by
  refine ok_def' (fx := fxOf [0, 1]) (m := m__law_stir) rfl rfl rfl F sc__law_stir fun cdv A outer s H E hr => ?_
  have nd := sc__law_stir.nd
  exact (xb_cons (xs_if (xt_ge (xv 0) (xe_pow xe_int xe_int)) (xb_one (xs_ret (xe_mod (xe_shr (xe_sub (xv 0) (xe_pow xe_int xe_int)) (xe_mul xe_int (xv 1))) (xe_pow xe_int xe_int)))) xb_nil)
        (xb_cons (xs_set 2 nd (xe_mod (xe_mul (xe_add (xe_add (xv 0) (xe_mul xe_int (xv 1))) xe_int) xe_int) xe_int))
        (xb_cons (xs_set 2 nd (xe_mod (xe_mul (xv 2) (xv 2)) xe_int))
        (xb_one (xs_ret (xe_fdiv (xe_mod (xe_mul (xv 2) xe_int) xe_int) xe_int))))))
abbrev s__law_leaf : Stmt := topS 4
abbrev N__law_leaf : List Str := ["number"]
theorem sc__law_leaf : FnScope N__law_leaf ["number"] (defScope s__law_leaf) := ⟨rfl, rfl, rfl, by decide +kernel, rfl, by decide +kernel, by decide +kernel⟩
def m__law_leaf : MS := (mSeq (mIf (mTst (mOp dEq (mOp dMod (mVar 0) (mC (.int 2))) (mC (.int 0)))) (mRet (mFn dTup (mCons (mC (.str "box")) (mCons (mOp dIx (mFn dLst (mCons (mC (.str "a")) (mCons (mC (.str "ab")) (mCons (mC (.str "abc")) (mCons (mC (.str "b")) mNil))))) (mOp dMod (mOp dFdiv (mVar 0) (mC (.int 2))) (mC (.int 4)))) mNil)))) mSkip)
    (mRet (mFn dTup (mCons (mC (.str "number")) (mCons (mOp dMod (mOp dFdiv (mVar 0) (mC (.int 2))) (mOp dIx (mFn dLst (mCons (mC (.int 10)) (mCons (mC (.int 1000)) mNil))) (mOp dMod (mOp dFdiv (mVar 0) (mC (.int 20))) (mC (.int 2))))) mNil)))))
def F__law_leaf : List D → Option (D × DS) := fnM 1 1 (fxOf [0]) m__law_leaf
theorem ok__law_leaf {P : Program} {w : World} {K : PySem.W.Frag} {mg : Str → Option Value} {base : Heap} {f : Addr} {fd : FuncData} (F : Fun K "_law_leaf" "_law_leaf" s__law_leaf f fd) : FnOk P w K mg base CX0 1 f fd ["number"] (spF K mg 1 F__law_leaf) := by
  refine ok_def' (fx := fxOf [0]) (m := m__law_leaf) rfl rfl rfl F sc__law_leaf fun cdv A outer s H E hr => ?_
  have nd := sc__law_leaf.nd
  exact (xb_cons (xs_if (xt_eq hr.units (xe_mod (xv 0) xe_int) xe_int) (xb_one (xs_ret (xe_tup (xa_cons xe_str (xa_cons (xe_ix (xe_lst (xa_cons xe_str (xa_cons xe_str (xa_cons xe_str (xa_cons xe_str xa_nil))))) (xe_mod (xe_fdiv (xv 0) xe_int) xe_int)) xa_nil))))) xb_nil)
        (xb_one (xs_ret (xe_tup (xa_cons xe_str (xa_cons (xe_mod (xe_fdiv (xv 0) xe_int) (xe_ix (xe_lst (xa_cons xe_int (xa_cons xe_int xa_nil))) (xe_mod (xe_fdiv (xv 0) xe_int) xe_int))) xa_nil))))))
abbrev s__law_tree : Stmt := topS 5
abbrev N__law_tree : List Str := ["cell", "k", "deep", "number", "sign"]
theorem sc__law_tree : FnScope N__law_tree ["cell", "k", "deep"] (defScope s__law_tree) := ⟨rfl, rfl, rfl, by decide +kernel, rfl, by decide +kernel, by decide +kernel⟩
def m__law_tree (R : List D → Option (D × DS)) : MS := (mSeq (mAsg 3 (mCall F__law_stir [.bo 0, .bo 1]))
    (mSeq (mIf (mOr (mTst (mOp dEq (mVar 2) (mC (.int 0)))) (mTst (mOp dEq (mOp dMod (mVar 3) (mC (.int 4))) (mC (.int 0))))) (mRet (mCall F__law_leaf [.ex (mOp dFdiv (mVar 3) (mC (.int 4)))])) mSkip)
    (mSeq (mAsg 4 (mOp dIx (mC (.str "+-*")) (mOp dMod (mOp dFdiv (mVar 3) (mC (.int 4))) (mC (.int 3)))))
    (mRet (mFn dTup (mCons (mVar 4) (mCons (mCall R [.bo 0, .ex (mOp dAdd (mOp dMul (mC (.int 2)) (mVar 1)) (mC (.int 1))), .ex (mOp dSub (mVar 2) (mC (.int 1)))]) (mCons (mCall R [.bo 0, .ex (mOp dAdd (mOp dMul (mC (.int 2)) (mVar 1)) (mC (.int 2))), .ex (mOp dSub (mVar 2) (mC (.int 1)))]) mNil))))))))
def F__law_tree : Nat → List D → Option (D × DS)
  | 0 => fun _ => none
  | n + 1 => fnM 3 5 (fxOf [0, 1, 2]) (m__law_tree (F__law_tree n))
theorem ok__law_tree {P : Program} {w : World} {K : PySem.W.Frag} {mg : Str → Option Value} {base : Heap} {f : Addr} {fd : FuncData} (F : Fun K "_law_tree" "_law_tree" s__law_tree f fd) {nn : Nat} {R : List D → Option (D × DS)} (D__law_tree : Def P w K mg base (2 + nn) "_law_tree" 3 R) (D__law_leaf : Def P w K mg base 1 "_law_leaf" 1 F__law_leaf) (D__law_stir : Def P w K mg base 1 "_law_stir" 2 F__law_stir) : FnOk P w K mg base CX0 (2 + nn + 1) f fd ["cell", "k", "deep"] (spF K mg 3 (fnM 3 5 (fxOf [0, 1, 2]) (m__law_tree R))) := by
  refine ok_def' (fx := fxOf [0, 1, 2]) (m := (m__law_tree R)) rfl rfl rfl F sc__law_tree fun cdv A outer s H E hr => ?_
  have nd := sc__law_tree.nd
  exact (xb_cons (xs_set 3 nd (xe_call D__law_stir (hr.mono (by omega)) (xr_bo 0 (xr_bo 1 xr_nil))))
        (xb_cons (xs_if (xt_w (xw_or (xt_eq hr.units (xv 2) xe_int) (xw_or1 (xt_eq hr.units (xe_mod (xv 3) xe_int) xe_int)))) (xb_one (xs_ret (xe_call D__law_leaf (hr.mono (by omega)) (xr_ex (xe_fdiv (xv 3) xe_int) xr_nil)))) xb_nil)
        (xb_cons (xs_set 4 nd (xe_ix xe_str (xe_mod (xe_fdiv (xv 3) xe_int) xe_int)))
        (xb_one (xs_ret (xe_tup (xa_cons (xv 4) (xa_cons (xe_call D__law_tree (hr.mono (by omega)) (xr_bo 0 (xr_ex (xe_add (xe_mul xe_int (xv 1)) xe_int) (xr_ex (xe_sub (xv 2) xe_int) xr_nil)))) (xa_cons (xe_call D__law_tree (hr.mono (by omega)) (xr_bo 0 (xr_ex (xe_add (xe_mul xe_int (xv 1)) xe_int) (xr_ex (xe_sub (xv 2) xe_int) xr_nil)))) xa_nil)))))))))
abbrev s__law_values : Stmt := topS 6
abbrev N__law_values : List Str := ["cell", "values", "k", "number", "far"]
theorem sc__law_values : FnScope N__law_values ["cell"] (defScope s__law_values) := ⟨rfl, rfl, rfl, by decide +kernel, rfl, by decide +kernel, by decide +kernel⟩
def m__law_values : MS := (mSeq (mAsg 1 mNewK)
    (mSeq (mFor (mRngA (mCons (mC (.int 5)) mNil)) (gNm 2) (mSeq (mAsg 3 (mCall F__law_stir [.bo 0, .ex (mOp dAdd (mC (.int 30)) (mVar 2))]))
    (mSeq (mAsg 4 (mOp dFdiv (mVar 3) (mC (.int 8))))
    (mPutK 1 (mOp dIx (mFn dLst (mCons (mC (.str "b")) (mCons (mC (.str "abc")) (mCons (mC (.str "a")) (mCons (mC (.str "zz")) (mCons (mC (.str "ab")) mNil)))))) (mVar 2)) (mOp dIx (mFn dLst (mCons (mOp dMod (mVar 4) (mC (.int 10))) (mCons (mOp dMod (mVar 4) (mC (.int 10))) (mCons (mOp dSub (mC (.int 0)) (mOp dMod (mVar 4) (mC (.int 50)))) (mCons (mOp dMul (mVar 4) (mOp dPow (mC (.int 10)) (mC (.int 6)))) mNil))))) (mOp dMod (mVar 3) (mC (.int 4))))))))
    (mRet (mMove 1))))
def F__law_values : List D → Option (D × DS) := fnM 1 5 (fxOf [0]) m__law_values
theorem ok__law_values {P : Program} {w : World} {K : PySem.W.Frag} {mg : Str → Option Value} {base : Heap} {f : Addr} {fd : FuncData} (F : Fun K "_law_values" "_law_values" s__law_values f fd) (D__law_stir : Def P w K mg base 1 "_law_stir" 2 F__law_stir) (z_range : mg "range" = none) : FnOk P w K mg base CX0 2 f fd ["cell"] (spF K mg 1 F__law_values) := by
  refine ok_def' (fx := fxOf [0]) (m := m__law_values) rfl rfl rfl F sc__law_values fun cdv A outer s H E hr => ?_
  have nd := sc__law_values.nd
  exact (xb_cons (xs_set 1 nd xe_newK)
        (xb_cons (xs_for PassesOwn.never rfl (xi_rng1 z_range xe_int) (xg_name 2 nd) (xb_cons (xs_set 3 nd (xe_call D__law_stir (hr.mono (by decide)) (xr_bo 0 (xr_ex (xe_add xe_int (xv 2)) xr_nil))))
        (xb_cons (xs_set 4 nd (xe_fdiv (xv 3) xe_int))
        (xb_one (xs_putK 1 (hu65 hr) (xe_ix (xe_lst (xa_cons (xe_mod (xv 4) xe_int) (xa_cons (xe_mod (xv 4) xe_int) (xa_cons (xe_sub xe_int (xe_mod (xv 4) xe_int)) (xa_cons (xe_mul (xv 4) (xe_pow xe_int xe_int)) xa_nil))))) (xe_mod (xv 3) xe_int)) (xe_ix (xe_lst (xa_cons xe_str (xa_cons xe_str (xa_cons xe_str (xa_cons xe_str (xa_cons xe_str xa_nil)))))) (xv 2)))))))
        (xb_one (xs_ret (xmv 1)))))
abbrev s__law_shares : Stmt := topS 7
abbrev N__law_shares : List Str := ["tree", "values", "one", "other", "found", "number", "more"]
theorem sc__law_shares : FnScope N__law_shares ["tree", "values"] (defScope s__law_shares) := ⟨rfl, rfl, rfl, by decide +kernel, rfl, by decide +kernel, by decide +kernel⟩
def m__law_shares (R : List D → Option (D × DS)) : MS := (mSeq (mIf (mTst (mOp dEq (orFz 0 (mLook 0 dIx (mC (.int 0)))) (mC (.str "number")))) (mRet (mFn dLst (mCons (orFz 0 (mLook 0 dIx (mC (.int 1)))) mNil))) mSkip)
    (mSeq (mIf (mTst (mOp dEq (orFz 0 (mLook 0 dIx (mC (.int 0)))) (mC (.str "box")))) (mRet (mFn dLst (mCons (orFz 1 (mLookA 1 (orFz 0 (mLook 0 dIx (mC (.int 1)))))) mNil))) mSkip)
    (mSeq (mAsg 2 (mCall R [.ex (orFz 0 (mLook 0 dIx (mC (.int 1)))), .bo 1]))
    (mSeq (mAsg 3 (mCall R [.ex (orFz 0 (mLook 0 dIx (mC (.int 2)))), .bo 1]))
    (mSeq (mIf (mTst (mOp dEq (orFz 0 (mLook 0 dIx (mC (.int 0)))) (mC (.str "+")))) (mRet (mOp dAdd (mVar 2) (mVar 3))) mSkip)
    (mSeq (mIf (mTst (mOp dEq (orFz 0 (mLook 0 dIx (mC (.int 0)))) (mC (.str "-")))) (mRet (mOp dAdd (mVar 2) (mLc (mIt itemsL (mVar 3)) (gNm 5) mYes (mOp dSub (mC (.int 0)) (mVar 5)) [5]))) mSkip)
    (mSeq (mAsg 4 (mFn dLst mNil))
    (mSeq (mFor (mIt itemsL (mVar 2)) (gNm 5) (mAsg 4 (mOp dAdd (mVar 4) (mLc (mIt itemsL (mVar 3)) (gNm 6) mYes (mOp dMul (mVar 5) (mVar 6)) [6]))))
    (mRet (mMove 4))))))))))
def F__law_shares : Nat → List D → Option (D × DS)
  | 0 => fun _ => none
  | n + 1 => fnM 2 7 (fxOf [0, 1]) (m__law_shares (F__law_shares n))
theorem ok__law_shares {P : Program} {w : World} {K : PySem.W.Frag} {mg : Str → Option Value} {base : Heap} {f : Addr} {fd : FuncData} (F : Fun K "_law_shares" "_law_shares" s__law_shares f fd) {nn : Nat} {R : List D → Option (D × DS)} (D__law_shares : Def P w K mg base (1 + nn) "_law_shares" 2 R) : FnOk P w K mg base CX0 (1 + nn + 1) f fd ["tree", "values"] (spF K mg 2 (fnM 2 7 (fxOf [0, 1]) (m__law_shares R))) := by
  refine ok_def' (fx := fxOf [0, 1]) (m := (m__law_shares R)) rfl rfl rfl F sc__law_shares fun cdv A outer s H E hr => ?_
  have nd := sc__law_shares.nd
  exact (xb_cons (xs_if (xt_eq hr.units (xe_orFz 0 (xe_ixv 0 xe_int)) xe_str) (xb_one (xs_ret (xe_lst (xa_cons (xe_orFz 0 (xe_ixv 0 xe_int)) xa_nil)))) xb_nil)
        (xb_cons (xs_if (xt_eq hr.units (xe_orFz 0 (xe_ixv 0 xe_int)) xe_str) (xb_one (xs_ret (xe_lst (xa_cons (xe_orFz 1 (xe_ixa 1 (hu65 hr) (xe_orFz 0 (xe_ixv 0 xe_int)))) xa_nil)))) xb_nil)
        (xb_cons (xs_set 2 nd (xe_call D__law_shares (hr.mono (by omega)) (xr_ex (xe_orFz 0 (xe_ixv 0 xe_int)) (xr_bo 1 xr_nil))))
        (xb_cons (xs_set 3 nd (xe_call D__law_shares (hr.mono (by omega)) (xr_ex (xe_orFz 0 (xe_ixv 0 xe_int)) (xr_bo 1 xr_nil))))
        (xb_cons (xs_if (xt_eq hr.units (xe_orFz 0 (xe_ixv 0 xe_int)) xe_str) (xb_one (xs_ret (xe_add (xv 2) (xv 3)))) xb_nil)
        (xb_cons (xs_if (xt_eq hr.units (xe_orFz 0 (xe_ixv 0 xe_int)) xe_str) (xb_one (xs_ret (xe_add (xv 2) (xe_lc [("number", 5)] nd (xi_list (xv 3)) (blkOk_by (N := N__law_shares) (sc := defScope s__law_shares) (by decide +kernel)) (fun _ _ _ _ _ => (xg_name 5 nd)) (fun _ _ _ _ _ => xts_nil) (fun _ _ _ _ _ => (xe_sub xe_int (xv 5))))))) xb_nil)
        (xb_cons (xs_set 4 nd (xe_lst xa_nil))
        (xb_cons (xs_for PassesOwn.never rfl (xi_list (xv 2)) (xg_name 5 nd) (xb_one (xs_set 4 nd (xe_add (xv 4) (xe_lc [("more", 6)] nd (xi_list (xv 3)) (blkOk_by (N := N__law_shares) (sc := defScope s__law_shares) (by decide +kernel)) (fun _ _ _ _ _ => (xg_name 6 nd)) (fun _ _ _ _ _ => xts_nil) (fun _ _ _ _ _ => (xe_mul (xv 5) (xv 6))))))))
        (xb_one (xs_ret (xmv 4)))))))))))
abbrev s_law : Stmt := topS 8
abbrev N_law : List Str := ["script", "cell", "tree", "values", "handed", "found"]
theorem sc_law : FnScope N_law ["script"] (defScope s_law) := ⟨rfl, rfl, rfl, by decide +kernel, rfl, by decide +kernel, by decide +kernel⟩
def m_law : MS := (mSeq (mFor (mIt itemsL (mSl (mVar 0) oNo (oYes (mC (.int 63))))) (gNm 1) (mSeq (mAsg 2 (mCall (F__law_tree 6) [.bo 1, .ex (mC (.int 1)), .ex (mC (.int 3))]))
    (mSeq (mAsg 3 (mCall F__law_values [.bo 1]))
    (mSeq (mAsg 4 (mFn dDictD (mCons (mVar 3) mNil)))
    (mSeq (mAsg 5 (mCall (F_worth 6) [.bo 2, .bo 4]))
    (mSeq (mIf (mOr (mNot (mTst (mFn dIsi (mCons (mVar 5) (mCons (mC (.ty "int")) mNil))))) (mOr (mTst (mFn dIsi (mCons (mVar 5) (mCons (mC (.ty "bool")) mNil)))) (mTst (mOp dNe (mVar 5) (mFn dSum (mCons (mCall (F__law_shares 6) [.bo 2, .bo 3]) mNil)))))) (mRet (mC (.bl false))) mSkip)
    (mIf (mOr (mTst (mOp (dLikeK false) (mVar 4) (mVar 3))) (mTst (mOp dNe (mCall (F_worth 6) [.bo 2, .bo 4]) (mVar 5)))) (mRet (mC (.bl false))) mSkip)))))))
    (mRet (mC (.bl true))))
def F_law : List D → Option (D × DS) := fnM 1 6 (fxOf [0]) m_law
theorem ok_law {P : Program} {w : World} {K : PySem.W.Frag} {mg : Str → Option Value} {base : Heap} {f : Addr} {fd : FuncData} (F : Fun K "law" "law" s_law f fd) (D__law_shares : Def P w K mg base 7 "_law_shares" 2 (F__law_shares 6)) (D__law_tree : Def P w K mg base 8 "_law_tree" 3 (F__law_tree 6)) (D__law_values : Def P w K mg base 2 "_law_values" 1 F__law_values) (D_worth : Def P w K mg base 7 "worth" 2 (F_worth 6)) (z_bool : mg "bool" = none) (z_dict : mg "dict" = none) (z_int : mg "int" = none) (z_isinstance : mg "isinstance" = none) (z_sum : mg "sum" = none) : FnOk P w K mg base CX0 9 f fd ["script"] (spF K mg 1 F_law) := by
  refine ok_def' (fx := fxOf [0]) (m := m_law) rfl rfl rfl F sc_law fun cdv A outer s H E hr => ?_
  have nd := sc_law.nd
  exact (xb_cons (xs_for PassesOwn.never rfl (xi_list (xe_sl (xv 0) xo_no (xo_yes xe_int))) (xg_name 1 nd) (xb_cons (xs_set 2 nd (xe_call D__law_tree (hr.mono (by decide)) (xr_bo 1 (xr_ex xe_int (xr_ex xe_int xr_nil)))))
        (xb_cons (xs_set 3 nd (xe_call D__law_values (hr.mono (by decide)) (xr_bo 1 xr_nil)))
        (xb_cons (xs_set 4 nd (xe_callTy call_dictD calld_dictD (by rfl) z_dict (by decide +kernel) (xa_cons (xv 3) xa_nil)))
        (xb_cons (xs_set 5 nd (xe_call D_worth (hr.mono (by decide)) (xr_bo 2 (xr_bo 4 xr_nil))))
        (xb_cons (xs_if (xt_w (xw_or (xt_not (xt_val (xe_callB call_isi calld_isi (by rfl) z_isinstance (by decide +kernel) (xa_cons (xv 5) (xa_cons (xe_ty z_int (by decide +kernel)) xa_nil))))) (xw_or (xt_val (xe_callB call_isi calld_isi (by rfl) z_isinstance (by decide +kernel) (xa_cons (xv 5) (xa_cons (xe_ty z_bool (by decide +kernel)) xa_nil)))) (xw_or1 (xt_ne hr.units (xv 5) (xe_callB (cr_sum rfl) calld_sum (by rfl) z_sum (by decide +kernel) (xa_cons (xe_call D__law_shares (hr.mono (by decide)) (xr_bo 2 (xr_bo 3 xr_nil))) xa_nil))))))) (xb_one (xs_ret xe_bl)) xb_nil)
        (xb_one (xs_if (xt_w (xw_or (xt_neK (hu65 hr) (xv 4) (xv 3)) (xw_or1 (xt_ne hr.units (xe_call D_worth (hr.mono (by decide)) (xr_bo 2 (xr_bo 4 xr_nil))) (xv 5))))) (xb_one (xs_ret xe_bl)) xb_nil))))))))
        (xb_one (xs_ret xe_bl)))
end My
namespace My
open PySem L2 Z
abbrev tI (i : Int) : D := .v (.int i)
abbrev tS (s : String) : D := .v (.str (Str.ofString s))
abbrev tN (i : Nat) : D := .v (.int (i : Int))
abbrev tT (s : Str) : D := .v (.str s)
theorem stir_ok (cell k : Int) (h0 : 0 ≤ k) (h1 : k ≤ 100) : ∃ r : Int, F__law_stir [tI cell, tI k] = some (tI r, [some (tI cell), some (tI k)]) ∧ 0 ≤ r ∧ r < 300000000 := by
  by_cases hc : 1000000000000000000 ≤ cell
  · have hk : 0 ≤ 28 * k := by omega
    have hs : dShr (tI (cell - 1000000000000000000)) (tI (28 * k)) = some (tI ((cell - 1000000000000000000) / 2 ^ (28 * k).toNat)) := dShr_eq hk
    generalize (cell - 1000000000000000000) / 2 ^ (28 * k).toNat = Q at hs
    refine ⟨Q % 268435456, ?_, by omega, by omega⟩
    have hkb : k < 18446744073709551616 := by omega
    have hkc : -18446744073709551616 < k := by omega
    simp [fnM_k, mSeq_k, mIf_k, mIfE_k, mOp_k, mLook_k, mVar_k, mMove_k, mTst_k, mAnd_k, mOr_k, mNot_k, mAndV_k, mOrV_k, mNotV_k, mNeg_k, mAsg_k, mRet_k, mRetN, mDrop_k, mSkip, mC, mK, mCons_k, mNil, mFn_k, mSetIx_k, mAug_k, mAppend_k, mAsgT_k, mIt_k, mRngA_k, mFor_k, mLc_k, mCall_k, mArgs_nil, mArgs_ex, mArgs_bo, take_nil, take_ex, take_bo, put_nil, put_bo, put_ex, outs, fxOf, ofStr_inj, dAdd_int, dSub_eq, clean, cleans, mIsN_k, mIsNV_k, isN, mPutK_k, mNewK_k, dDictD_1, mFrz_k, orFz_k, fzAt_k, mPar_k, mEnum_k, mZip_k, mLookL_k, mMt_k, itemsS_1, dJoin_1, dStrF_1, dAdd_str, mChn_k, mRev_k, mExtend_k, mPop_k, mClear_k, mLookA_k, mLookR_k, mInV_k, mPairs_nil, mPairs_cons, mDisp_k, dMin2_1, dMax2_1, dAbs_1, dIntF_1, dIntF_2, isDic_d, isDic_v, isDic_t, isDic_k, isDic_l, dKey_i, dKey_s, dKx_i, dKx_s, dKin_i, dKin_s, getD_nil, getD_cons, hasK_nil, hasK_cons, putD_eq, mergeD_nil, mergeD_cons, dInF, dFdiv_eq, dMod_eq, dMul_r, dMul_l, dPow_eq, dShr_eq, dLt_eq, dLe_eq, dGt_eq, dGe_eq, dEq_int, dNe_int, dEq_bl, dNe_bl, dEq_str, dNe_str, atI_z, atI_lit, atI_n, ixN_lit, ixN_n, fz, fzs, fzO, mYes, wipeD, mBrk, mCnt, seqK_1, seqK_2, seqK_3, seqK_4, seqK_5, ifK_1, ifK_2, ifK_3, opK3_1, opK3_2, opK2_1, opK2_2, opK_1, opK_2, lookK3_1, lookK3_2, lookK2_1, lookK2_2, lookK1_1, lookK1_2, lookK_1, lookK_2, varK_1, varK_2, moveK_1, moveK_2, tstK_1, tstK_2, andK_1, andK_2, andK_3, orK_1, orK_2, orK_3, notK_1, notK_2, andVK_1, andVK_2, andVK_3, orVK_1, orVK_2, orVK_3, notVK_1, notVK_2, negK_1, negK_2, asgK_1, asgK_2, retK_1, retK_2, dropK_1, dropK_2, consK2_1, consK2_2, consK_1, consK_2, fnK_1, fnK_2, setIxK3_1, setIxK3_2, setIxK2_1, setIxK2_2, setIxK1_1, setIxK1_2, setIxK0_1, setIxK0_2, setIxK_1, setIxK_2, augK2_1, augK2_2, augK_1, augK_2, appendK1_1, appendK1_2, appendK0_1, appendK0_2, appendK_1, appendK_2, asgTK2_1, asgTK2_2, asgTK_1, asgTK_2, itK2_1, itK2_2, itK_1, itK_2, rngK_1, rngK_2, forK_1, forK_2, turnK_1, turnK_2, turnK_3, turnK_4, turnK_5, turnK0_1, turnK0_2, lcK1_1, lcK1_2, lcK_1, lcK_2, lcT2_1, lcT2_2, lcT1_1, lcT1_2, lcT1_3, lcT0_1, lcT0_2, callK2_1, callK2_2, callK1_1, callK1_2, callK_1, callK_2, argK2_1, argK2_2, argK_1, argK_2, argB_1, argB_2, takeK_1, takeK_2, takeB_1, takeB_2, fnMK_1, fnMK_2, fnMK_3, isNK_1, isNK_2, isNVK_1, isNVK_2, chnK3_1, chnK3_2, chnK2_1, chnK2_2, chnK_1, chnK_2, revK_1, revK_2, extendK1_1, extendK1_2, extendK0_1, extendK0_2, extendK0_3, extendK_1, extendK_2, popK2_1, popK2_2, popK_1, popK_2, clearK_1, clearK_2, lookAK_1, lookAK_2, lookRK2_1, lookRK2_2, lookRK_1, lookRK_2, inVK_1, inVK_2, pairsK4_1, pairsK4_2, pairsK3_1, pairsK3_2, pairsK2_1, pairsK2_2, pairsK_1, pairsK_2, dispK2_1, dispK2_2, dispK_1, dispK_2, mergeK__1, mergeK__2, parK2_1, parK2_2, parK_1, parK_2, enumK_1, enumK_2, zipK_1, zipK_2, lookLK_1, lookLK_2, mtK2_1, mtK2_2, mtK_1, mtK_2, orFzK_1, orFzK_2, fzAtK_1, fzAtK_2, frzK_1, frzK_2, putKK5_1, putKK5_2, putKK4_1, putKK4_2, putKK3_1, putKK3_2, putKK2_1, putKK2_2, putKK1_1, putKK1_2, putKK_1, putKK_2, dIx_l, dIx_t, dIx_k, gNl_1, csK_1, gCs_1, gTu_1, itemsL_1, itemsT_1, mRng_1, mRng_2, dTup_1, dLst_1, setSlot_1, setK_1, gNm_1, dLen_l, dLen_t, dTuple_l, dTuple_t, dList_l, dList_t, oNo_1, oYes_k, oK_1, mSl_k, slK_1, slK1_1, slK2_1, dCut_l, dCut_t, F__law_stir, m__law_stir, hc, ↓hs, hkb, hkc]
  · obtain ⟨A, hA⟩ : ∃ A, (cell + 1013 * k + 1) * 16807 % 2147483647 = A := ⟨_, rfl⟩
    have hA1 : 0 ≤ A ∧ A < 2147483647 := by omega
    obtain ⟨B, hB⟩ : ∃ B, A * A % 2147483629 = B := ⟨_, rfl⟩
    have hB1 : 0 ≤ B ∧ B < 2147483629 := by omega
    refine ⟨B * 39373 % 2147483587 / 8, ?_, by omega, by omega⟩
    have h1 : -18446744073709551616 < A := by omega
    have h2 : A < 18446744073709551616 := by omega
    have h3 : -18446744073709551616 < B := by omega
    have h4 : B < 18446744073709551616 := by omega
    have hkb : k < 18446744073709551616 := by omega
    have hkc : -18446744073709551616 < k := by omega
    simp [fnM_k, mSeq_k, mIf_k, mIfE_k, mOp_k, mLook_k, mVar_k, mMove_k, mTst_k, mAnd_k, mOr_k, mNot_k, mAndV_k, mOrV_k, mNotV_k, mNeg_k, mAsg_k, mRet_k, mRetN, mDrop_k, mSkip, mC, mK, mCons_k, mNil, mFn_k, mSetIx_k, mAug_k, mAppend_k, mAsgT_k, mIt_k, mRngA_k, mFor_k, mLc_k, mCall_k, mArgs_nil, mArgs_ex, mArgs_bo, take_nil, take_ex, take_bo, put_nil, put_bo, put_ex, outs, fxOf, ofStr_inj, dAdd_int, dSub_eq, clean, cleans, mIsN_k, mIsNV_k, isN, mPutK_k, mNewK_k, dDictD_1, mFrz_k, orFz_k, fzAt_k, mPar_k, mEnum_k, mZip_k, mLookL_k, mMt_k, itemsS_1, dJoin_1, dStrF_1, dAdd_str, mChn_k, mRev_k, mExtend_k, mPop_k, mClear_k, mLookA_k, mLookR_k, mInV_k, mPairs_nil, mPairs_cons, mDisp_k, dMin2_1, dMax2_1, dAbs_1, dIntF_1, dIntF_2, isDic_d, isDic_v, isDic_t, isDic_k, isDic_l, dKey_i, dKey_s, dKx_i, dKx_s, dKin_i, dKin_s, getD_nil, getD_cons, hasK_nil, hasK_cons, putD_eq, mergeD_nil, mergeD_cons, dInF, dFdiv_eq, dMod_eq, dMul_r, dMul_l, dPow_eq, dShr_eq, dLt_eq, dLe_eq, dGt_eq, dGe_eq, dEq_int, dNe_int, dEq_bl, dNe_bl, dEq_str, dNe_str, atI_z, atI_lit, atI_n, ixN_lit, ixN_n, fz, fzs, fzO, mYes, wipeD, mBrk, mCnt, seqK_1, seqK_2, seqK_3, seqK_4, seqK_5, ifK_1, ifK_2, ifK_3, opK3_1, opK3_2, opK2_1, opK2_2, opK_1, opK_2, lookK3_1, lookK3_2, lookK2_1, lookK2_2, lookK1_1, lookK1_2, lookK_1, lookK_2, varK_1, varK_2, moveK_1, moveK_2, tstK_1, tstK_2, andK_1, andK_2, andK_3, orK_1, orK_2, orK_3, notK_1, notK_2, andVK_1, andVK_2, andVK_3, orVK_1, orVK_2, orVK_3, notVK_1, notVK_2, negK_1, negK_2, asgK_1, asgK_2, retK_1, retK_2, dropK_1, dropK_2, consK2_1, consK2_2, consK_1, consK_2, fnK_1, fnK_2, setIxK3_1, setIxK3_2, setIxK2_1, setIxK2_2, setIxK1_1, setIxK1_2, setIxK0_1, setIxK0_2, setIxK_1, setIxK_2, augK2_1, augK2_2, augK_1, augK_2, appendK1_1, appendK1_2, appendK0_1, appendK0_2, appendK_1, appendK_2, asgTK2_1, asgTK2_2, asgTK_1, asgTK_2, itK2_1, itK2_2, itK_1, itK_2, rngK_1, rngK_2, forK_1, forK_2, turnK_1, turnK_2, turnK_3, turnK_4, turnK_5, turnK0_1, turnK0_2, lcK1_1, lcK1_2, lcK_1, lcK_2, lcT2_1, lcT2_2, lcT1_1, lcT1_2, lcT1_3, lcT0_1, lcT0_2, callK2_1, callK2_2, callK1_1, callK1_2, callK_1, callK_2, argK2_1, argK2_2, argK_1, argK_2, argB_1, argB_2, takeK_1, takeK_2, takeB_1, takeB_2, fnMK_1, fnMK_2, fnMK_3, isNK_1, isNK_2, isNVK_1, isNVK_2, chnK3_1, chnK3_2, chnK2_1, chnK2_2, chnK_1, chnK_2, revK_1, revK_2, extendK1_1, extendK1_2, extendK0_1, extendK0_2, extendK0_3, extendK_1, extendK_2, popK2_1, popK2_2, popK_1, popK_2, clearK_1, clearK_2, lookAK_1, lookAK_2, lookRK2_1, lookRK2_2, lookRK_1, lookRK_2, inVK_1, inVK_2, pairsK4_1, pairsK4_2, pairsK3_1, pairsK3_2, pairsK2_1, pairsK2_2, pairsK_1, pairsK_2, dispK2_1, dispK2_2, dispK_1, dispK_2, mergeK__1, mergeK__2, parK2_1, parK2_2, parK_1, parK_2, enumK_1, enumK_2, zipK_1, zipK_2, lookLK_1, lookLK_2, mtK2_1, mtK2_2, mtK_1, mtK_2, orFzK_1, orFzK_2, fzAtK_1, fzAtK_2, frzK_1, frzK_2, putKK5_1, putKK5_2, putKK4_1, putKK4_2, putKK3_1, putKK3_2, putKK2_1, putKK2_2, putKK1_1, putKK1_2, putKK_1, putKK_2, dIx_l, dIx_t, dIx_k, gNl_1, csK_1, gCs_1, gTu_1, itemsL_1, itemsT_1, mRng_1, mRng_2, dTup_1, dLst_1, setSlot_1, setK_1, gNm_1, dLen_l, dLen_t, dTuple_l, dTuple_t, dList_l, dList_t, oNo_1, oYes_k, oK_1, mSl_k, slK_1, slK1_1, slK2_1, dCut_l, dCut_t, F__law_stir, m__law_stir, hc, hA, hB, h1, h2, h3, h4, hkb, hkc]
inductive Tr where
  | num (n : Int) | box (j : Fin 4) | op (c : Fin 3) (l r : Tr)
def nmJ : Fin 4 → Str
  | 0 => Str.ofString "a"
  | 1 => Str.ofString "ab"
  | 2 => Str.ofString "abc"
  | 3 => Str.ofString "b"
def opJ : Fin 3 → Str
  | 0 => Str.ofString "+"
  | 1 => Str.ofString "-"
  | 2 => Str.ofString "*"
def encT : Tr → D
  | .num n => .tup [tS "number", tI n]
  | .box j => .tup [tS "box", tT (nmJ j)]
  | .op c l r => .tup [tT (opJ c), encT l, encT r]
def dep : Tr → Nat
  | .op _ l r => 1 + max (dep l) (dep r)
  | _ => 0
def fine : Tr → Prop
  | .num n => 0 ≤ n ∧ n < 1000
  | .box _ => True
  | .op _ l r => fine l ∧ fine r
theorem clean_T : ∀ t : Tr, clean (encT t) = true
  | .num n => rfl
  | .box j => rfl
  | .op c l r => by simp only [encT, clean, cleans, clean_T l, clean_T r, Bool.and_self]
theorem leaf_ok (x : Int) (h0 : 0 ≤ x) : ∃ t : Tr, F__law_leaf [tI x] = some (encT t, [some (tI x)]) ∧ dep t = 0 ∧ fine t := by
  by_cases h : x % 2 = 0
  · obtain ⟨j, hj, hj0, hj4⟩ : ∃ j : Int, x / 2 % 4 = j ∧ 0 ≤ j ∧ j < 4 := ⟨_, rfl, by omega, by omega⟩
    obtain ⟨n, hn⟩ : ∃ n : Fin 4, atI [tS "a", tS "ab", tS "abc", tS "b"] j = some (tT (nmJ n)) := by
      have : j = 0 ∨ j = 1 ∨ j = 2 ∨ j = 3 := by omega
      rcases this with rfl | rfl | rfl | rfl
      · exact ⟨0, rfl⟩
      · exact ⟨1, rfl⟩
      · exact ⟨2, rfl⟩
      · exact ⟨3, rfl⟩
    refine ⟨.box n, ?_, rfl, trivial⟩
    simp [fnM_k, mSeq_k, mIf_k, mIfE_k, mOp_k, mLook_k, mVar_k, mMove_k, mTst_k, mAnd_k, mOr_k, mNot_k, mAndV_k, mOrV_k, mNotV_k, mNeg_k, mAsg_k, mRet_k, mRetN, mDrop_k, mSkip, mC, mK, mCons_k, mNil, mFn_k, mSetIx_k, mAug_k, mAppend_k, mAsgT_k, mIt_k, mRngA_k, mFor_k, mLc_k, mCall_k, mArgs_nil, mArgs_ex, mArgs_bo, take_nil, take_ex, take_bo, put_nil, put_bo, put_ex, outs, fxOf, ofStr_inj, dAdd_int, dSub_eq, clean, cleans, mIsN_k, mIsNV_k, isN, mPutK_k, mNewK_k, dDictD_1, mFrz_k, orFz_k, fzAt_k, mPar_k, mEnum_k, mZip_k, mLookL_k, mMt_k, itemsS_1, dJoin_1, dStrF_1, dAdd_str, mChn_k, mRev_k, mExtend_k, mPop_k, mClear_k, mLookA_k, mLookR_k, mInV_k, mPairs_nil, mPairs_cons, mDisp_k, dMin2_1, dMax2_1, dAbs_1, dIntF_1, dIntF_2, isDic_d, isDic_v, isDic_t, isDic_k, isDic_l, dKey_i, dKey_s, dKx_i, dKx_s, dKin_i, dKin_s, getD_nil, getD_cons, hasK_nil, hasK_cons, putD_eq, mergeD_nil, mergeD_cons, dInF, dFdiv_eq, dMod_eq, dMul_r, dMul_l, dPow_eq, dShr_eq, dLt_eq, dLe_eq, dGt_eq, dGe_eq, dEq_int, dNe_int, dEq_bl, dNe_bl, dEq_str, dNe_str, atI_z, atI_lit, atI_n, ixN_lit, ixN_n, fz, fzs, fzO, mYes, wipeD, mBrk, mCnt, seqK_1, seqK_2, seqK_3, seqK_4, seqK_5, ifK_1, ifK_2, ifK_3, opK3_1, opK3_2, opK2_1, opK2_2, opK_1, opK_2, lookK3_1, lookK3_2, lookK2_1, lookK2_2, lookK1_1, lookK1_2, lookK_1, lookK_2, varK_1, varK_2, moveK_1, moveK_2, tstK_1, tstK_2, andK_1, andK_2, andK_3, orK_1, orK_2, orK_3, notK_1, notK_2, andVK_1, andVK_2, andVK_3, orVK_1, orVK_2, orVK_3, notVK_1, notVK_2, negK_1, negK_2, asgK_1, asgK_2, retK_1, retK_2, dropK_1, dropK_2, consK2_1, consK2_2, consK_1, consK_2, fnK_1, fnK_2, setIxK3_1, setIxK3_2, setIxK2_1, setIxK2_2, setIxK1_1, setIxK1_2, setIxK0_1, setIxK0_2, setIxK_1, setIxK_2, augK2_1, augK2_2, augK_1, augK_2, appendK1_1, appendK1_2, appendK0_1, appendK0_2, appendK_1, appendK_2, asgTK2_1, asgTK2_2, asgTK_1, asgTK_2, itK2_1, itK2_2, itK_1, itK_2, rngK_1, rngK_2, forK_1, forK_2, turnK_1, turnK_2, turnK_3, turnK_4, turnK_5, turnK0_1, turnK0_2, lcK1_1, lcK1_2, lcK_1, lcK_2, lcT2_1, lcT2_2, lcT1_1, lcT1_2, lcT1_3, lcT0_1, lcT0_2, callK2_1, callK2_2, callK1_1, callK1_2, callK_1, callK_2, argK2_1, argK2_2, argK_1, argK_2, argB_1, argB_2, takeK_1, takeK_2, takeB_1, takeB_2, fnMK_1, fnMK_2, fnMK_3, isNK_1, isNK_2, isNVK_1, isNVK_2, chnK3_1, chnK3_2, chnK2_1, chnK2_2, chnK_1, chnK_2, revK_1, revK_2, extendK1_1, extendK1_2, extendK0_1, extendK0_2, extendK0_3, extendK_1, extendK_2, popK2_1, popK2_2, popK_1, popK_2, clearK_1, clearK_2, lookAK_1, lookAK_2, lookRK2_1, lookRK2_2, lookRK_1, lookRK_2, inVK_1, inVK_2, pairsK4_1, pairsK4_2, pairsK3_1, pairsK3_2, pairsK2_1, pairsK2_2, pairsK_1, pairsK_2, dispK2_1, dispK2_2, dispK_1, dispK_2, mergeK__1, mergeK__2, parK2_1, parK2_2, parK_1, parK_2, enumK_1, enumK_2, zipK_1, zipK_2, lookLK_1, lookLK_2, mtK2_1, mtK2_2, mtK_1, mtK_2, orFzK_1, orFzK_2, fzAtK_1, fzAtK_2, frzK_1, frzK_2, putKK5_1, putKK5_2, putKK4_1, putKK4_2, putKK3_1, putKK3_2, putKK2_1, putKK2_2, putKK1_1, putKK1_2, putKK_1, putKK_2, dIx_l, dIx_t, dIx_k, gNl_1, csK_1, gCs_1, gTu_1, itemsL_1, itemsT_1, mRng_1, mRng_2, dTup_1, dLst_1, setSlot_1, setK_1, gNm_1, dLen_l, dLen_t, dTuple_l, dTuple_t, dList_l, dList_t, oNo_1, oYes_k, oK_1, mSl_k, slK_1, slK1_1, slK2_1, dCut_l, dCut_t, F__law_leaf, m__law_leaf, h, hj, hn, encT]
  · obtain ⟨j, hj, hj0, hj4⟩ : ∃ j : Int, x / 20 % 2 = j ∧ 0 ≤ j ∧ j < 2 := ⟨_, rfl, by omega, by omega⟩
    obtain ⟨M, hM, hM1, hM2⟩ : ∃ M : Int, atI [tI 10, tI 1000] j = some (tI M) ∧ 0 < M ∧ M ≤ 1000 := by
      have : j = 0 ∨ j = 1 := by omega
      rcases this with rfl | rfl
      · exact ⟨10, rfl, by omega, by omega⟩
      · exact ⟨1000, rfl, by omega, by omega⟩
    have hp := Int.emod_nonneg (x / 2) (b := M) (by omega)
    have hq := Int.emod_lt_of_pos (x / 2) hM1
    refine ⟨.num (x / 2 % M), ?_, rfl, hp, by omega⟩
    have hd := decide_eq_false h
    simp [fnM_k, mSeq_k, mIf_k, mIfE_k, mOp_k, mLook_k, mVar_k, mMove_k, mTst_k, mAnd_k, mOr_k, mNot_k, mAndV_k, mOrV_k, mNotV_k, mNeg_k, mAsg_k, mRet_k, mRetN, mDrop_k, mSkip, mC, mK, mCons_k, mNil, mFn_k, mSetIx_k, mAug_k, mAppend_k, mAsgT_k, mIt_k, mRngA_k, mFor_k, mLc_k, mCall_k, mArgs_nil, mArgs_ex, mArgs_bo, take_nil, take_ex, take_bo, put_nil, put_bo, put_ex, outs, fxOf, ofStr_inj, dAdd_int, dSub_eq, clean, cleans, mIsN_k, mIsNV_k, isN, mPutK_k, mNewK_k, dDictD_1, mFrz_k, orFz_k, fzAt_k, mPar_k, mEnum_k, mZip_k, mLookL_k, mMt_k, itemsS_1, dJoin_1, dStrF_1, dAdd_str, mChn_k, mRev_k, mExtend_k, mPop_k, mClear_k, mLookA_k, mLookR_k, mInV_k, mPairs_nil, mPairs_cons, mDisp_k, dMin2_1, dMax2_1, dAbs_1, dIntF_1, dIntF_2, isDic_d, isDic_v, isDic_t, isDic_k, isDic_l, dKey_i, dKey_s, dKx_i, dKx_s, dKin_i, dKin_s, getD_nil, getD_cons, hasK_nil, hasK_cons, putD_eq, mergeD_nil, mergeD_cons, dInF, dFdiv_eq, dMod_eq, dMul_r, dMul_l, dPow_eq, dShr_eq, dLt_eq, dLe_eq, dGt_eq, dGe_eq, dEq_int, dNe_int, dEq_bl, dNe_bl, dEq_str, dNe_str, atI_z, atI_lit, atI_n, ixN_lit, ixN_n, fz, fzs, fzO, mYes, wipeD, mBrk, mCnt, seqK_1, seqK_2, seqK_3, seqK_4, seqK_5, ifK_1, ifK_2, ifK_3, opK3_1, opK3_2, opK2_1, opK2_2, opK_1, opK_2, lookK3_1, lookK3_2, lookK2_1, lookK2_2, lookK1_1, lookK1_2, lookK_1, lookK_2, varK_1, varK_2, moveK_1, moveK_2, tstK_1, tstK_2, andK_1, andK_2, andK_3, orK_1, orK_2, orK_3, notK_1, notK_2, andVK_1, andVK_2, andVK_3, orVK_1, orVK_2, orVK_3, notVK_1, notVK_2, negK_1, negK_2, asgK_1, asgK_2, retK_1, retK_2, dropK_1, dropK_2, consK2_1, consK2_2, consK_1, consK_2, fnK_1, fnK_2, setIxK3_1, setIxK3_2, setIxK2_1, setIxK2_2, setIxK1_1, setIxK1_2, setIxK0_1, setIxK0_2, setIxK_1, setIxK_2, augK2_1, augK2_2, augK_1, augK_2, appendK1_1, appendK1_2, appendK0_1, appendK0_2, appendK_1, appendK_2, asgTK2_1, asgTK2_2, asgTK_1, asgTK_2, itK2_1, itK2_2, itK_1, itK_2, rngK_1, rngK_2, forK_1, forK_2, turnK_1, turnK_2, turnK_3, turnK_4, turnK_5, turnK0_1, turnK0_2, lcK1_1, lcK1_2, lcK_1, lcK_2, lcT2_1, lcT2_2, lcT1_1, lcT1_2, lcT1_3, lcT0_1, lcT0_2, callK2_1, callK2_2, callK1_1, callK1_2, callK_1, callK_2, argK2_1, argK2_2, argK_1, argK_2, argB_1, argB_2, takeK_1, takeK_2, takeB_1, takeB_2, fnMK_1, fnMK_2, fnMK_3, isNK_1, isNK_2, isNVK_1, isNVK_2, chnK3_1, chnK3_2, chnK2_1, chnK2_2, chnK_1, chnK_2, revK_1, revK_2, extendK1_1, extendK1_2, extendK0_1, extendK0_2, extendK0_3, extendK_1, extendK_2, popK2_1, popK2_2, popK_1, popK_2, clearK_1, clearK_2, lookAK_1, lookAK_2, lookRK2_1, lookRK2_2, lookRK_1, lookRK_2, inVK_1, inVK_2, pairsK4_1, pairsK4_2, pairsK3_1, pairsK3_2, pairsK2_1, pairsK2_2, pairsK_1, pairsK_2, dispK2_1, dispK2_2, dispK_1, dispK_2, mergeK__1, mergeK__2, parK2_1, parK2_2, parK_1, parK_2, enumK_1, enumK_2, zipK_1, zipK_2, lookLK_1, lookLK_2, mtK2_1, mtK2_2, mtK_1, mtK_2, orFzK_1, orFzK_2, fzAtK_1, fzAtK_2, frzK_1, frzK_2, putKK5_1, putKK5_2, putKK4_1, putKK4_2, putKK3_1, putKK3_2, putKK2_1, putKK2_2, putKK1_1, putKK1_2, putKK_1, putKK_2, dIx_l, dIx_t, dIx_k, gNl_1, csK_1, gCs_1, gTu_1, itemsL_1, itemsT_1, mRng_1, mRng_2, dTup_1, dLst_1, setSlot_1, setK_1, gNm_1, dLen_l, dLen_t, dTuple_l, dTuple_t, dList_l, dList_t, oNo_1, oYes_k, oK_1, mSl_k, slK_1, slK1_1, slK2_1, dCut_l, dCut_t, F__law_leaf, m__law_leaf, hd, hj, hM, hM1, encT]
end My
namespace My
open PySem L2 Z
theorem sign_list : (Str.ofString "+-*").cps.toList = [43, 45, 42] := by decide +kernel
theorem sign_len : (Str.ofString "+-*").length = 3 := by decide +kernel
theorem op0 : (⟨#[43]⟩ : Str) = opJ 0 := by decide +kernel
theorem op1 : (⟨#[45]⟩ : Str) = opJ 1 := by decide +kernel
theorem op2 : (⟨#[42]⟩ : Str) = opJ 2 := by decide +kernel
theorem sign_at (j : Int) (h0 : 0 ≤ j) (h1 : j < 3) : ∃ c : Fin 3, dIx (tT (Str.ofString "+-*")) (tI j) = some (tT (opJ c)) := by
  have key : ∀ c, L2.atI [43, 45, 42] j = some c → dIx (tT (Str.ofString "+-*")) (tI j) = some (tT ⟨#[c]⟩) := by
    intro c hc
    unfold dIx
    simp only [sign_len, sign_list, hc]
    rfl
  have : j = 0 ∨ j = 1 ∨ j = 2 := by omega
  rcases this with rfl | rfl | rfl
  · exact ⟨0, by rw [← op0]; exact key 43 rfl⟩
  · exact ⟨1, by rw [← op1]; exact key 45 rfl⟩
  · exact ⟨2, by rw [← op2]; exact key 42 rfl⟩
theorem tree_ok : ∀ (d n : Nat) (cell k dd : Int), dd = (d : Int) → d < n → 0 ≤ k → (k + 2) * 2 ^ d ≤ 60 → ∃ t : Tr, F__law_tree n [tI cell, tI k, tI dd] = some (encT t, [some (tI cell), some (tI k), some (tI dd)]) ∧ dep t ≤ d ∧ fine t := by
  intro d
  induction d with
  | zero =>
    intro n cell k dd hdd hn h0 hk
    cases n with
    | zero => omega
    | succ n =>
      obtain ⟨r, e1, l1, u1⟩ := stir_ok cell k h0 (by simp at hk; omega)
      obtain ⟨t, e2, h1, h2⟩ := leaf_ok (r / 4) (by omega)
      refine ⟨t, ?_, by omega, h2⟩
      have hd := decide_eq_true (show dd = 0 by omega)
      simp [fnM_k, mSeq_k, mIf_k, mIfE_k, mOp_k, mLook_k, mVar_k, mMove_k, mTst_k, mAnd_k, mOr_k, mNot_k, mAndV_k, mOrV_k, mNotV_k, mNeg_k, mAsg_k, mRet_k, mRetN, mDrop_k, mSkip, mC, mK, mCons_k, mNil, mFn_k, mSetIx_k, mAug_k, mAppend_k, mAsgT_k, mIt_k, mRngA_k, mFor_k, mLc_k, mCall_k, mArgs_nil, mArgs_ex, mArgs_bo, take_nil, take_ex, take_bo, put_nil, put_bo, put_ex, outs, fxOf, ofStr_inj, dAdd_int, dSub_eq, clean, cleans, mIsN_k, mIsNV_k, isN, mPutK_k, mNewK_k, dDictD_1, mFrz_k, orFz_k, fzAt_k, mPar_k, mEnum_k, mZip_k, mLookL_k, mMt_k, itemsS_1, dJoin_1, dStrF_1, dAdd_str, mChn_k, mRev_k, mExtend_k, mPop_k, mClear_k, mLookA_k, mLookR_k, mInV_k, mPairs_nil, mPairs_cons, mDisp_k, dMin2_1, dMax2_1, dAbs_1, dIntF_1, dIntF_2, isDic_d, isDic_v, isDic_t, isDic_k, isDic_l, dKey_i, dKey_s, dKx_i, dKx_s, dKin_i, dKin_s, getD_nil, getD_cons, hasK_nil, hasK_cons, putD_eq, mergeD_nil, mergeD_cons, dInF, dFdiv_eq, dMod_eq, dMul_r, dMul_l, dPow_eq, dShr_eq, dLt_eq, dLe_eq, dGt_eq, dGe_eq, dEq_int, dNe_int, dEq_bl, dNe_bl, dEq_str, dNe_str, atI_z, atI_lit, atI_n, ixN_lit, ixN_n, fz, fzs, fzO, mYes, wipeD, mBrk, mCnt, seqK_1, seqK_2, seqK_3, seqK_4, seqK_5, ifK_1, ifK_2, ifK_3, opK3_1, opK3_2, opK2_1, opK2_2, opK_1, opK_2, lookK3_1, lookK3_2, lookK2_1, lookK2_2, lookK1_1, lookK1_2, lookK_1, lookK_2, varK_1, varK_2, moveK_1, moveK_2, tstK_1, tstK_2, andK_1, andK_2, andK_3, orK_1, orK_2, orK_3, notK_1, notK_2, andVK_1, andVK_2, andVK_3, orVK_1, orVK_2, orVK_3, notVK_1, notVK_2, negK_1, negK_2, asgK_1, asgK_2, retK_1, retK_2, dropK_1, dropK_2, consK2_1, consK2_2, consK_1, consK_2, fnK_1, fnK_2, setIxK3_1, setIxK3_2, setIxK2_1, setIxK2_2, setIxK1_1, setIxK1_2, setIxK0_1, setIxK0_2, setIxK_1, setIxK_2, augK2_1, augK2_2, augK_1, augK_2, appendK1_1, appendK1_2, appendK0_1, appendK0_2, appendK_1, appendK_2, asgTK2_1, asgTK2_2, asgTK_1, asgTK_2, itK2_1, itK2_2, itK_1, itK_2, rngK_1, rngK_2, forK_1, forK_2, turnK_1, turnK_2, turnK_3, turnK_4, turnK_5, turnK0_1, turnK0_2, lcK1_1, lcK1_2, lcK_1, lcK_2, lcT2_1, lcT2_2, lcT1_1, lcT1_2, lcT1_3, lcT0_1, lcT0_2, callK2_1, callK2_2, callK1_1, callK1_2, callK_1, callK_2, argK2_1, argK2_2, argK_1, argK_2, argB_1, argB_2, takeK_1, takeK_2, takeB_1, takeB_2, fnMK_1, fnMK_2, fnMK_3, isNK_1, isNK_2, isNVK_1, isNVK_2, chnK3_1, chnK3_2, chnK2_1, chnK2_2, chnK_1, chnK_2, revK_1, revK_2, extendK1_1, extendK1_2, extendK0_1, extendK0_2, extendK0_3, extendK_1, extendK_2, popK2_1, popK2_2, popK_1, popK_2, clearK_1, clearK_2, lookAK_1, lookAK_2, lookRK2_1, lookRK2_2, lookRK_1, lookRK_2, inVK_1, inVK_2, pairsK4_1, pairsK4_2, pairsK3_1, pairsK3_2, pairsK2_1, pairsK2_2, pairsK_1, pairsK_2, dispK2_1, dispK2_2, dispK_1, dispK_2, mergeK__1, mergeK__2, parK2_1, parK2_2, parK_1, parK_2, enumK_1, enumK_2, zipK_1, zipK_2, lookLK_1, lookLK_2, mtK2_1, mtK2_2, mtK_1, mtK_2, orFzK_1, orFzK_2, fzAtK_1, fzAtK_2, frzK_1, frzK_2, putKK5_1, putKK5_2, putKK4_1, putKK4_2, putKK3_1, putKK3_2, putKK2_1, putKK2_2, putKK1_1, putKK1_2, putKK_1, putKK_2, dIx_l, dIx_t, dIx_k, gNl_1, csK_1, gCs_1, gTu_1, itemsL_1, itemsT_1, mRng_1, mRng_2, dTup_1, dLst_1, setSlot_1, setK_1, gNm_1, dLen_l, dLen_t, dTuple_l, dTuple_t, dList_l, dList_t, oNo_1, oYes_k, oK_1, mSl_k, slK_1, slK1_1, slK2_1, dCut_l, dCut_t, F__law_tree, m__law_tree, e1, e2, hd]
  | succ d ih =>
    intro n cell k dd hdd hn h0 hk
    cases n with
    | zero => omega
    | succ n =>
      have hk2 : (k + 2) * 2 ^ d * 2 ≤ 60 := by rw [Int.mul_assoc]; rw [Int.pow_succ] at hk; exact hk
      have hkk : k + 2 ≤ (k + 2) * 2 ^ d := by
        have : (1 : Int) ≤ 2 ^ d := Int.pow_pos (by omega)
        have h3 := Int.mul_le_mul_of_nonneg_left this (show 0 ≤ k + 2 by omega)
        omega
      obtain ⟨r, e1, l1, u1⟩ := stir_ok cell k h0 (by omega)
      obtain ⟨q, hq⟩ : ∃ q, r / 4 = q := ⟨_, rfl⟩
      by_cases h4 : r % 4 = 0
      · obtain ⟨t, e2, h1, h2⟩ := leaf_ok q (by omega)
        refine ⟨t, ?_, by omega, h2⟩
        have hd : ¬ dd = 0 := by omega
        simp [fnM_k, mSeq_k, mIf_k, mIfE_k, mOp_k, mLook_k, mVar_k, mMove_k, mTst_k, mAnd_k, mOr_k, mNot_k, mAndV_k, mOrV_k, mNotV_k, mNeg_k, mAsg_k, mRet_k, mRetN, mDrop_k, mSkip, mC, mK, mCons_k, mNil, mFn_k, mSetIx_k, mAug_k, mAppend_k, mAsgT_k, mIt_k, mRngA_k, mFor_k, mLc_k, mCall_k, mArgs_nil, mArgs_ex, mArgs_bo, take_nil, take_ex, take_bo, put_nil, put_bo, put_ex, outs, fxOf, ofStr_inj, dAdd_int, dSub_eq, clean, cleans, mIsN_k, mIsNV_k, isN, mPutK_k, mNewK_k, dDictD_1, mFrz_k, orFz_k, fzAt_k, mPar_k, mEnum_k, mZip_k, mLookL_k, mMt_k, itemsS_1, dJoin_1, dStrF_1, dAdd_str, mChn_k, mRev_k, mExtend_k, mPop_k, mClear_k, mLookA_k, mLookR_k, mInV_k, mPairs_nil, mPairs_cons, mDisp_k, dMin2_1, dMax2_1, dAbs_1, dIntF_1, dIntF_2, isDic_d, isDic_v, isDic_t, isDic_k, isDic_l, dKey_i, dKey_s, dKx_i, dKx_s, dKin_i, dKin_s, getD_nil, getD_cons, hasK_nil, hasK_cons, putD_eq, mergeD_nil, mergeD_cons, dInF, dFdiv_eq, dMod_eq, dMul_r, dMul_l, dPow_eq, dShr_eq, dLt_eq, dLe_eq, dGt_eq, dGe_eq, dEq_int, dNe_int, dEq_bl, dNe_bl, dEq_str, dNe_str, atI_z, atI_lit, atI_n, ixN_lit, ixN_n, fz, fzs, fzO, mYes, wipeD, mBrk, mCnt, seqK_1, seqK_2, seqK_3, seqK_4, seqK_5, ifK_1, ifK_2, ifK_3, opK3_1, opK3_2, opK2_1, opK2_2, opK_1, opK_2, lookK3_1, lookK3_2, lookK2_1, lookK2_2, lookK1_1, lookK1_2, lookK_1, lookK_2, varK_1, varK_2, moveK_1, moveK_2, tstK_1, tstK_2, andK_1, andK_2, andK_3, orK_1, orK_2, orK_3, notK_1, notK_2, andVK_1, andVK_2, andVK_3, orVK_1, orVK_2, orVK_3, notVK_1, notVK_2, negK_1, negK_2, asgK_1, asgK_2, retK_1, retK_2, dropK_1, dropK_2, consK2_1, consK2_2, consK_1, consK_2, fnK_1, fnK_2, setIxK3_1, setIxK3_2, setIxK2_1, setIxK2_2, setIxK1_1, setIxK1_2, setIxK0_1, setIxK0_2, setIxK_1, setIxK_2, augK2_1, augK2_2, augK_1, augK_2, appendK1_1, appendK1_2, appendK0_1, appendK0_2, appendK_1, appendK_2, asgTK2_1, asgTK2_2, asgTK_1, asgTK_2, itK2_1, itK2_2, itK_1, itK_2, rngK_1, rngK_2, forK_1, forK_2, turnK_1, turnK_2, turnK_3, turnK_4, turnK_5, turnK0_1, turnK0_2, lcK1_1, lcK1_2, lcK_1, lcK_2, lcT2_1, lcT2_2, lcT1_1, lcT1_2, lcT1_3, lcT0_1, lcT0_2, callK2_1, callK2_2, callK1_1, callK1_2, callK_1, callK_2, argK2_1, argK2_2, argK_1, argK_2, argB_1, argB_2, takeK_1, takeK_2, takeB_1, takeB_2, fnMK_1, fnMK_2, fnMK_3, isNK_1, isNK_2, isNVK_1, isNVK_2, chnK3_1, chnK3_2, chnK2_1, chnK2_2, chnK_1, chnK_2, revK_1, revK_2, extendK1_1, extendK1_2, extendK0_1, extendK0_2, extendK0_3, extendK_1, extendK_2, popK2_1, popK2_2, popK_1, popK_2, clearK_1, clearK_2, lookAK_1, lookAK_2, lookRK2_1, lookRK2_2, lookRK_1, lookRK_2, inVK_1, inVK_2, pairsK4_1, pairsK4_2, pairsK3_1, pairsK3_2, pairsK2_1, pairsK2_2, pairsK_1, pairsK_2, dispK2_1, dispK2_2, dispK_1, dispK_2, mergeK__1, mergeK__2, parK2_1, parK2_2, parK_1, parK_2, enumK_1, enumK_2, zipK_1, zipK_2, lookLK_1, lookLK_2, mtK2_1, mtK2_2, mtK_1, mtK_2, orFzK_1, orFzK_2, fzAtK_1, fzAtK_2, frzK_1, frzK_2, putKK5_1, putKK5_2, putKK4_1, putKK4_2, putKK3_1, putKK3_2, putKK2_1, putKK2_2, putKK1_1, putKK1_2, putKK_1, putKK_2, dIx_l, dIx_t, dIx_k, gNl_1, csK_1, gCs_1, gTu_1, itemsL_1, itemsT_1, mRng_1, mRng_2, dTup_1, dLst_1, setSlot_1, setK_1, gNm_1, dLen_l, dLen_t, dTuple_l, dTuple_t, dList_l, dList_t, oNo_1, oYes_k, oK_1, mSl_k, slK_1, slK1_1, slK2_1, dCut_l, dCut_t, F__law_tree, m__law_tree, e1, decide_eq_true h4, decide_eq_false hd, hq, e2]
      · obtain ⟨j, hj, hj0, hj3⟩ : ∃ j, q % 3 = j ∧ 0 ≤ j ∧ j < 3 := ⟨_, rfl, by omega, by omega⟩
        obtain ⟨c, hc⟩ := sign_at j hj0 hj3
        obtain ⟨k1, hk1⟩ : ∃ x, 2 * k + 1 = x := ⟨_, rfl⟩
        obtain ⟨k2, hk2'⟩ : ∃ x, 2 * k + 2 = x := ⟨_, rfl⟩
        have b1 : (k1 + 2) * 2 ^ d ≤ 60 := by
          have : k1 + 2 ≤ (k + 2) * 2 := by omega
          have h3 := Int.mul_le_mul_of_nonneg_right this (show (0:Int) ≤ 2 ^ d from Int.le_of_lt (Int.pow_pos (by omega)))
          have h5 : (k + 2) * 2 * 2 ^ d = (k + 2) * 2 ^ d * 2 := by rw [Int.mul_right_comm]
          omega
        have b2 : (k2 + 2) * 2 ^ d ≤ 60 := by
          have : k2 + 2 ≤ (k + 2) * 2 := by omega
          have h3 := Int.mul_le_mul_of_nonneg_right this (show (0:Int) ≤ 2 ^ d from Int.le_of_lt (Int.pow_pos (by omega)))
          have h5 : (k + 2) * 2 * 2 ^ d = (k + 2) * 2 ^ d * 2 := by rw [Int.mul_right_comm]
          omega
        obtain ⟨tl, e2, p1, p2⟩ := ih n cell k1 (d : Int) rfl (by omega) (by omega) b1
        obtain ⟨tr, e3, p3, p4⟩ := ih n cell k2 (d : Int) rfl (by omega) (by omega) b2
        obtain ⟨D2, hD3⟩ : ∃ x, (d : Int) = x := ⟨_, rfl⟩
        rw [hD3] at e2 e3
        have hD2 : dd - 1 = D2 := by omega
        have hd : ¬ dd = 0 := by omega
        refine ⟨.op c tl tr, ?_, by simp only [dep]; omega, p2, p4⟩
        have c1 := clean_T tl
        have c2 := clean_T tr
        simp only [encT]
        generalize encT tl = TL at *
        generalize encT tr = TR at *
        have hkb : k < 18446744073709551616 := by omega
        have hkc : -18446744073709551616 < k := by omega
        simp [fnM_k, mSeq_k, mIf_k, mIfE_k, mOp_k, mLook_k, mVar_k, mMove_k, mTst_k, mAnd_k, mOr_k, mNot_k, mAndV_k, mOrV_k, mNotV_k, mNeg_k, mAsg_k, mRet_k, mRetN, mDrop_k, mSkip, mC, mK, mCons_k, mNil, mFn_k, mSetIx_k, mAug_k, mAppend_k, mAsgT_k, mIt_k, mRngA_k, mFor_k, mLc_k, mCall_k, mArgs_nil, mArgs_ex, mArgs_bo, take_nil, take_ex, take_bo, put_nil, put_bo, put_ex, outs, fxOf, ofStr_inj, dAdd_int, dSub_eq, clean, cleans, mIsN_k, mIsNV_k, isN, mPutK_k, mNewK_k, dDictD_1, mFrz_k, orFz_k, fzAt_k, mPar_k, mEnum_k, mZip_k, mLookL_k, mMt_k, itemsS_1, dJoin_1, dStrF_1, dAdd_str, mChn_k, mRev_k, mExtend_k, mPop_k, mClear_k, mLookA_k, mLookR_k, mInV_k, mPairs_nil, mPairs_cons, mDisp_k, dMin2_1, dMax2_1, dAbs_1, dIntF_1, dIntF_2, isDic_d, isDic_v, isDic_t, isDic_k, isDic_l, dKey_i, dKey_s, dKx_i, dKx_s, dKin_i, dKin_s, getD_nil, getD_cons, hasK_nil, hasK_cons, putD_eq, mergeD_nil, mergeD_cons, dInF, dFdiv_eq, dMod_eq, dMul_r, dMul_l, dPow_eq, dShr_eq, dLt_eq, dLe_eq, dGt_eq, dGe_eq, dEq_int, dNe_int, dEq_bl, dNe_bl, dEq_str, dNe_str, atI_z, atI_lit, atI_n, ixN_lit, ixN_n, fz, fzs, fzO, mYes, wipeD, mBrk, mCnt, seqK_1, seqK_2, seqK_3, seqK_4, seqK_5, ifK_1, ifK_2, ifK_3, opK3_1, opK3_2, opK2_1, opK2_2, opK_1, opK_2, lookK3_1, lookK3_2, lookK2_1, lookK2_2, lookK1_1, lookK1_2, lookK_1, lookK_2, varK_1, varK_2, moveK_1, moveK_2, tstK_1, tstK_2, andK_1, andK_2, andK_3, orK_1, orK_2, orK_3, notK_1, notK_2, andVK_1, andVK_2, andVK_3, orVK_1, orVK_2, orVK_3, notVK_1, notVK_2, negK_1, negK_2, asgK_1, asgK_2, retK_1, retK_2, dropK_1, dropK_2, consK2_1, consK2_2, consK_1, consK_2, fnK_1, fnK_2, setIxK3_1, setIxK3_2, setIxK2_1, setIxK2_2, setIxK1_1, setIxK1_2, setIxK0_1, setIxK0_2, setIxK_1, setIxK_2, augK2_1, augK2_2, augK_1, augK_2, appendK1_1, appendK1_2, appendK0_1, appendK0_2, appendK_1, appendK_2, asgTK2_1, asgTK2_2, asgTK_1, asgTK_2, itK2_1, itK2_2, itK_1, itK_2, rngK_1, rngK_2, forK_1, forK_2, turnK_1, turnK_2, turnK_3, turnK_4, turnK_5, turnK0_1, turnK0_2, lcK1_1, lcK1_2, lcK_1, lcK_2, lcT2_1, lcT2_2, lcT1_1, lcT1_2, lcT1_3, lcT0_1, lcT0_2, callK2_1, callK2_2, callK1_1, callK1_2, callK_1, callK_2, argK2_1, argK2_2, argK_1, argK_2, argB_1, argB_2, takeK_1, takeK_2, takeB_1, takeB_2, fnMK_1, fnMK_2, fnMK_3, isNK_1, isNK_2, isNVK_1, isNVK_2, chnK3_1, chnK3_2, chnK2_1, chnK2_2, chnK_1, chnK_2, revK_1, revK_2, extendK1_1, extendK1_2, extendK0_1, extendK0_2, extendK0_3, extendK_1, extendK_2, popK2_1, popK2_2, popK_1, popK_2, clearK_1, clearK_2, lookAK_1, lookAK_2, lookRK2_1, lookRK2_2, lookRK_1, lookRK_2, inVK_1, inVK_2, pairsK4_1, pairsK4_2, pairsK3_1, pairsK3_2, pairsK2_1, pairsK2_2, pairsK_1, pairsK_2, dispK2_1, dispK2_2, dispK_1, dispK_2, mergeK__1, mergeK__2, parK2_1, parK2_2, parK_1, parK_2, enumK_1, enumK_2, zipK_1, zipK_2, lookLK_1, lookLK_2, mtK2_1, mtK2_2, mtK_1, mtK_2, orFzK_1, orFzK_2, fzAtK_1, fzAtK_2, frzK_1, frzK_2, putKK5_1, putKK5_2, putKK4_1, putKK4_2, putKK3_1, putKK3_2, putKK2_1, putKK2_2, putKK1_1, putKK1_2, putKK_1, putKK_2, dIx_l, dIx_t, dIx_k, gNl_1, csK_1, gCs_1, gTu_1, itemsL_1, itemsT_1, mRng_1, mRng_2, dTup_1, dLst_1, setSlot_1, setK_1, gNm_1, dLen_l, dLen_t, dTuple_l, dTuple_t, dList_l, dList_t, oNo_1, oYes_k, oK_1, mSl_k, slK_1, slK1_1, slK2_1, dCut_l, dCut_t, F__law_tree, m__law_tree, e1, decide_eq_false h4, decide_eq_false hd, hq, hj, ↓hc, hk1, hk2', hD2, e2, e3, hkb, hkc]
end My
namespace My
open PySem L2 Z
def bodyV : MS := (mSeq (mAsg 3 (mCall F__law_stir [.bo 0, .ex (mOp dAdd (mC (.int 30)) (mVar 2))]))
    (mSeq (mAsg 4 (mOp dFdiv (mVar 3) (mC (.int 8))))
    (mPutK 1 (mOp dIx (mFn dLst (mCons (mC (.str "b")) (mCons (mC (.str "abc")) (mCons (mC (.str "a")) (mCons (mC (.str "zz")) (mCons (mC (.str "ab")) mNil)))))) (mVar 2)) (mOp dIx (mFn dLst (mCons (mOp dMod (mVar 4) (mC (.int 10))) (mCons (mOp dMod (mVar 4) (mC (.int 10))) (mCons (mOp dSub (mC (.int 0)) (mOp dMod (mVar 4) (mC (.int 50)))) (mCons (mOp dMul (mVar 4) (mOp dPow (mC (.int 10)) (mC (.int 6)))) mNil))))) (mOp dMod (mVar 3) (mC (.int 4)))))))
theorem step_ok (cell j : Int) (nm : Str) (h0 : 0 ≤ j) (h4 : j ≤ 4) (hn : atI [tS "b", tS "abc", tS "a", tS "zz", tS "ab"] j = some (tT nm)) (ks : List Key) (es : List D) (hl : ks.length < 10) (hk : hasK ks (.inr nm) = false) (a b : Option D) :
    ∃ (v : Int) (a' b' : Option D), bodyV [some (tI cell), some (.dic .own ks es), some (tI j), a, b] = some (.nx [some (tI cell), some (.dic .own (ks ++ [.inr nm]) (es ++ [tI v])), some (tI j), a', b']) ∧ -1000000000000000 < v ∧ v < 1000000000000000 := by
  obtain ⟨J, hJ⟩ : ∃ x, 30 + j = x := ⟨_, rfl⟩
  obtain ⟨r, e1, l1, u1⟩ := stir_ok cell J (by omega) (by omega)
  obtain ⟨F, hF, hF0, hF1⟩ : ∃ x, r / 8 = x ∧ 0 ≤ x ∧ x < 300000000 := ⟨_, rfl, by omega, by omega⟩
  obtain ⟨A, hA, hA1⟩ : ∃ x, F % 10 = x ∧ (0 ≤ x ∧ x < 10) := ⟨_, rfl, by omega⟩
  obtain ⟨B, hB, hB1⟩ : ∃ x, F % 50 = x ∧ (0 ≤ x ∧ x < 50) := ⟨_, rfl, by omega⟩
  obtain ⟨q, hq, hq0, hq1⟩ : ∃ x, r % 4 = x ∧ 0 ≤ x ∧ x < 4 := ⟨_, rfl, by omega, by omega⟩
  obtain ⟨v, hv, hv1, hv2⟩ : ∃ v : Int, atI [tI A, tI A, tI (0 - B), tI (F * 1000000)] q = some (tI v) ∧ -1000000000000000 < v ∧ v < 1000000000000000 := by
    have : q = 0 ∨ q = 1 ∨ q = 2 ∨ q = 3 := by omega
    rcases this with rfl | rfl | rfl | rfl
    · exact ⟨A, rfl, by omega, by omega⟩
    · exact ⟨A, rfl, by omega, by omega⟩
    · exact ⟨0 - B, rfl, by omega, by omega⟩
    · exact ⟨F * 1000000, rfl, by omega, by omega⟩
  refine ⟨v, some (tI r), some (tI F), ?_, hv1, hv2⟩
  have hl2 : ks.length < 10000000 := by omega
  simp only [Int.zero_sub] at hv
  simp [fnM_k, mSeq_k, mIf_k, mIfE_k, mOp_k, mLook_k, mVar_k, mMove_k, mTst_k, mAnd_k, mOr_k, mNot_k, mAndV_k, mOrV_k, mNotV_k, mNeg_k, mAsg_k, mRet_k, mRetN, mDrop_k, mSkip, mC, mK, mCons_k, mNil, mFn_k, mSetIx_k, mAug_k, mAppend_k, mAsgT_k, mIt_k, mRngA_k, mFor_k, mLc_k, mCall_k, mArgs_nil, mArgs_ex, mArgs_bo, take_nil, take_ex, take_bo, put_nil, put_bo, put_ex, outs, fxOf, ofStr_inj, dAdd_int, dSub_eq, clean, cleans, mIsN_k, mIsNV_k, isN, mPutK_k, mNewK_k, dDictD_1, mFrz_k, orFz_k, fzAt_k, mPar_k, mEnum_k, mZip_k, mLookL_k, mMt_k, itemsS_1, dJoin_1, dStrF_1, dAdd_str, mChn_k, mRev_k, mExtend_k, mPop_k, mClear_k, mLookA_k, mLookR_k, mInV_k, mPairs_nil, mPairs_cons, mDisp_k, dMin2_1, dMax2_1, dAbs_1, dIntF_1, dIntF_2, isDic_d, isDic_v, isDic_t, isDic_k, isDic_l, dKey_i, dKey_s, dKx_i, dKx_s, dKin_i, dKin_s, getD_nil, getD_cons, hasK_nil, hasK_cons, putD_eq, mergeD_nil, mergeD_cons, dInF, dFdiv_eq, dMod_eq, dMul_r, dMul_l, dPow_eq, dShr_eq, dLt_eq, dLe_eq, dGt_eq, dGe_eq, dEq_int, dNe_int, dEq_bl, dNe_bl, dEq_str, dNe_str, atI_z, atI_lit, atI_n, ixN_lit, ixN_n, fz, fzs, fzO, mYes, wipeD, mBrk, mCnt, seqK_1, seqK_2, seqK_3, seqK_4, seqK_5, ifK_1, ifK_2, ifK_3, opK3_1, opK3_2, opK2_1, opK2_2, opK_1, opK_2, lookK3_1, lookK3_2, lookK2_1, lookK2_2, lookK1_1, lookK1_2, lookK_1, lookK_2, varK_1, varK_2, moveK_1, moveK_2, tstK_1, tstK_2, andK_1, andK_2, andK_3, orK_1, orK_2, orK_3, notK_1, notK_2, andVK_1, andVK_2, andVK_3, orVK_1, orVK_2, orVK_3, notVK_1, notVK_2, negK_1, negK_2, asgK_1, asgK_2, retK_1, retK_2, dropK_1, dropK_2, consK2_1, consK2_2, consK_1, consK_2, fnK_1, fnK_2, setIxK3_1, setIxK3_2, setIxK2_1, setIxK2_2, setIxK1_1, setIxK1_2, setIxK0_1, setIxK0_2, setIxK_1, setIxK_2, augK2_1, augK2_2, augK_1, augK_2, appendK1_1, appendK1_2, appendK0_1, appendK0_2, appendK_1, appendK_2, asgTK2_1, asgTK2_2, asgTK_1, asgTK_2, itK2_1, itK2_2, itK_1, itK_2, rngK_1, rngK_2, forK_1, forK_2, turnK_1, turnK_2, turnK_3, turnK_4, turnK_5, turnK0_1, turnK0_2, lcK1_1, lcK1_2, lcK_1, lcK_2, lcT2_1, lcT2_2, lcT1_1, lcT1_2, lcT1_3, lcT0_1, lcT0_2, callK2_1, callK2_2, callK1_1, callK1_2, callK_1, callK_2, argK2_1, argK2_2, argK_1, argK_2, argB_1, argB_2, takeK_1, takeK_2, takeB_1, takeB_2, fnMK_1, fnMK_2, fnMK_3, isNK_1, isNK_2, isNVK_1, isNVK_2, chnK3_1, chnK3_2, chnK2_1, chnK2_2, chnK_1, chnK_2, revK_1, revK_2, extendK1_1, extendK1_2, extendK0_1, extendK0_2, extendK0_3, extendK_1, extendK_2, popK2_1, popK2_2, popK_1, popK_2, clearK_1, clearK_2, lookAK_1, lookAK_2, lookRK2_1, lookRK2_2, lookRK_1, lookRK_2, inVK_1, inVK_2, pairsK4_1, pairsK4_2, pairsK3_1, pairsK3_2, pairsK2_1, pairsK2_2, pairsK_1, pairsK_2, dispK2_1, dispK2_2, dispK_1, dispK_2, mergeK__1, mergeK__2, parK2_1, parK2_2, parK_1, parK_2, enumK_1, enumK_2, zipK_1, zipK_2, lookLK_1, lookLK_2, mtK2_1, mtK2_2, mtK_1, mtK_2, orFzK_1, orFzK_2, fzAtK_1, fzAtK_2, frzK_1, frzK_2, putKK5_1, putKK5_2, putKK4_1, putKK4_2, putKK3_1, putKK3_2, putKK2_1, putKK2_2, putKK1_1, putKK1_2, putKK_1, putKK_2, dIx_l, dIx_t, dIx_k, gNl_1, csK_1, gCs_1, gTu_1, itemsL_1, itemsT_1, mRng_1, mRng_2, dTup_1, dLst_1, setSlot_1, setK_1, gNm_1, dLen_l, dLen_t, dTuple_l, dTuple_t, dList_l, dList_t, oNo_1, oYes_k, oK_1, mSl_k, slK_1, slK1_1, slK2_1, dCut_l, dCut_t, bodyV, hJ, e1, hF, hA, hB, hq, hv, hn, hk, hl2]
abbrev kB : Key := .inr (Str.ofString "b")
abbrev kABC : Key := .inr (Str.ofString "abc")
abbrev kA : Key := .inr (Str.ofString "a")
abbrev kZZ : Key := .inr (Str.ofString "zz")
abbrev kAB : Key := .inr (Str.ofString "ab")
abbrev K5 : List Key := [kB, kABC, kA, kZZ, kAB]
abbrev big (v : Int) : Prop := -1000000000000000 < v ∧ v < 1000000000000000
theorem values_ok (cell : Int) : ∃ a b c d e : Int, F__law_values [tI cell] = some (.dic .own K5 [tI a, tI b, tI c, tI d, tI e], [some (tI cell)]) ∧ big a ∧ big b ∧ big c ∧ big d ∧ big e := by
  obtain ⟨a, a1, a2, e0, ha⟩ := step_ok cell 0 (Str.ofString "b") (by omega) (by omega) rfl [] [] (by simp) rfl none none
  obtain ⟨b, b1, b2, e1, hb⟩ := step_ok cell 1 (Str.ofString "abc") (by omega) (by omega) rfl [kB] [tI a] (by simp) (by decide +kernel) a1 a2
  obtain ⟨c, c1, c2, e2, hc⟩ := step_ok cell 2 (Str.ofString "a") (by omega) (by omega) rfl [kB, kABC] [tI a, tI b] (by simp) (by decide +kernel) b1 b2
  obtain ⟨d, d1, d2, e3, hd⟩ := step_ok cell 3 (Str.ofString "zz") (by omega) (by omega) rfl [kB, kABC, kA] [tI a, tI b, tI c] (by simp) (by decide +kernel) c1 c2
  obtain ⟨e, f1, f2, e4, he⟩ := step_ok cell 4 (Str.ofString "ab") (by omega) (by omega) rfl [kB, kABC, kA, kZZ] [tI a, tI b, tI c, tI d] (by simp) (by decide +kernel) d1 d2
  refine ⟨a, b, c, d, e, ?_, ha, hb, hc, hd, he⟩
  have hr : rangeD 0 5 = [tI 0, tI 1, tI 2, tI 3, tI 4] := rfl
  simp only [List.nil_append, List.cons_append] at e0 e1 e2 e3 e4
  have hm : m__law_values = mSeq (mAsg 1 mNewK) (mSeq (mFor (mRngA (mCons (mC (.int 5)) mNil)) (gNm 2) bodyV) (mRet (mMove 1))) := rfl
  have g : ∀ (j : Int) (x : Option D) (o2 y z : Option D), gNm 2 (tI j) [some (tI cell), x, o2, y, z] = some [some (tI cell), x, some (tI j), y, z] := fun _ _ _ _ _ => rfl
  have hfor : forL (gNm 2) bodyV [tI 0, tI 1, tI 2, tI 3, tI 4] [some (tI cell), some (.dic .own [] []), none, none, none] = some (.nx [some (tI cell), some (.dic .own K5 [tI a, tI b, tI c, tI d, tI e]), some (tI 4), f1, f2]) := by
    rw [forL_cons, g, turnK0_1, e0, turnK_1, forL_cons, g, turnK0_1, e1, turnK_1, forL_cons, g, turnK0_1, e2, turnK_1, forL_cons, g, turnK0_1, e3, turnK_1, forL_cons, g, turnK0_1, e4, turnK_1, forL_nil]
  simp [fnM_k, mSeq_k, mIf_k, mIfE_k, mOp_k, mLook_k, mVar_k, mMove_k, mTst_k, mAnd_k, mOr_k, mNot_k, mAndV_k, mOrV_k, mNotV_k, mNeg_k, mAsg_k, mRet_k, mRetN, mDrop_k, mSkip, mC, mK, mCons_k, mNil, mFn_k, mSetIx_k, mAug_k, mAppend_k, mAsgT_k, mIt_k, mRngA_k, mFor_k, mLc_k, mCall_k, mArgs_nil, mArgs_ex, mArgs_bo, take_nil, take_ex, take_bo, put_nil, put_bo, put_ex, outs, fxOf, ofStr_inj, dAdd_int, dSub_eq, clean, cleans, mIsN_k, mIsNV_k, isN, mPutK_k, mNewK_k, dDictD_1, mFrz_k, orFz_k, fzAt_k, mPar_k, mEnum_k, mZip_k, mLookL_k, mMt_k, itemsS_1, dJoin_1, dStrF_1, dAdd_str, mChn_k, mRev_k, mExtend_k, mPop_k, mClear_k, mLookA_k, mLookR_k, mInV_k, mPairs_nil, mPairs_cons, mDisp_k, dMin2_1, dMax2_1, dAbs_1, dIntF_1, dIntF_2, isDic_d, isDic_v, isDic_t, isDic_k, isDic_l, dKey_i, dKey_s, dKx_i, dKx_s, dKin_i, dKin_s, getD_nil, getD_cons, hasK_nil, hasK_cons, putD_eq, mergeD_nil, mergeD_cons, dInF, dFdiv_eq, dMod_eq, dMul_r, dMul_l, dPow_eq, dShr_eq, dLt_eq, dLe_eq, dGt_eq, dGe_eq, dEq_int, dNe_int, dEq_bl, dNe_bl, dEq_str, dNe_str, atI_z, atI_lit, atI_n, ixN_lit, ixN_n, fz, fzs, fzO, mYes, wipeD, mBrk, mCnt, seqK_1, seqK_2, seqK_3, seqK_4, seqK_5, ifK_1, ifK_2, ifK_3, opK3_1, opK3_2, opK2_1, opK2_2, opK_1, opK_2, lookK3_1, lookK3_2, lookK2_1, lookK2_2, lookK1_1, lookK1_2, lookK_1, lookK_2, varK_1, varK_2, moveK_1, moveK_2, tstK_1, tstK_2, andK_1, andK_2, andK_3, orK_1, orK_2, orK_3, notK_1, notK_2, andVK_1, andVK_2, andVK_3, orVK_1, orVK_2, orVK_3, notVK_1, notVK_2, negK_1, negK_2, asgK_1, asgK_2, retK_1, retK_2, dropK_1, dropK_2, consK2_1, consK2_2, consK_1, consK_2, fnK_1, fnK_2, setIxK3_1, setIxK3_2, setIxK2_1, setIxK2_2, setIxK1_1, setIxK1_2, setIxK0_1, setIxK0_2, setIxK_1, setIxK_2, augK2_1, augK2_2, augK_1, augK_2, appendK1_1, appendK1_2, appendK0_1, appendK0_2, appendK_1, appendK_2, asgTK2_1, asgTK2_2, asgTK_1, asgTK_2, itK2_1, itK2_2, itK_1, itK_2, rngK_1, rngK_2, forK_1, forK_2, turnK_1, turnK_2, turnK_3, turnK_4, turnK_5, turnK0_1, turnK0_2, lcK1_1, lcK1_2, lcK_1, lcK_2, lcT2_1, lcT2_2, lcT1_1, lcT1_2, lcT1_3, lcT0_1, lcT0_2, callK2_1, callK2_2, callK1_1, callK1_2, callK_1, callK_2, argK2_1, argK2_2, argK_1, argK_2, argB_1, argB_2, takeK_1, takeK_2, takeB_1, takeB_2, fnMK_1, fnMK_2, fnMK_3, isNK_1, isNK_2, isNVK_1, isNVK_2, chnK3_1, chnK3_2, chnK2_1, chnK2_2, chnK_1, chnK_2, revK_1, revK_2, extendK1_1, extendK1_2, extendK0_1, extendK0_2, extendK0_3, extendK_1, extendK_2, popK2_1, popK2_2, popK_1, popK_2, clearK_1, clearK_2, lookAK_1, lookAK_2, lookRK2_1, lookRK2_2, lookRK_1, lookRK_2, inVK_1, inVK_2, pairsK4_1, pairsK4_2, pairsK3_1, pairsK3_2, pairsK2_1, pairsK2_2, pairsK_1, pairsK_2, dispK2_1, dispK2_2, dispK_1, dispK_2, mergeK__1, mergeK__2, parK2_1, parK2_2, parK_1, parK_2, enumK_1, enumK_2, zipK_1, zipK_2, lookLK_1, lookLK_2, mtK2_1, mtK2_2, mtK_1, mtK_2, orFzK_1, orFzK_2, fzAtK_1, fzAtK_2, frzK_1, frzK_2, putKK5_1, putKK5_2, putKK4_1, putKK4_2, putKK3_1, putKK3_2, putKK2_1, putKK2_2, putKK1_1, putKK1_2, putKK_1, putKK_2, dIx_l, dIx_t, dIx_k, gNl_1, csK_1, gCs_1, gTu_1, itemsL_1, itemsT_1, mRng_1, mRng_2, dTup_1, dLst_1, setSlot_1, setK_1, gNm_1, dLen_l, dLen_t, dTuple_l, dTuple_t, dList_l, dList_t, oNo_1, oYes_k, oK_1, mSl_k, slK_1, slK1_1, slK2_1, dCut_l, dCut_t, F__law_values, hm, hr, hfor]
end My
namespace My
open PySem L2 Z
def val (g : Fin 4 → Int) : Tr → Int
  | .num n => n
  | .box j => g j
  | .op 0 l r => val g l + val g r
  | .op 1 l r => val g l - val g r
  | .op 2 l r => val g l * val g r
def lv : Tr → Nat
  | .op _ l r => lv l + lv r
  | _ => 1
theorem lv_pos : ∀ t, 1 ≤ lv t
  | .num _ => Nat.le_refl _
  | .box _ => Nat.le_refl _
  | .op _ l r => by have := lv_pos l; simp only [lv]; omega
theorem lv_dep : ∀ t, lv t ≤ 2 ^ dep t
  | .num _ => by simp [lv, dep]
  | .box _ => by simp [lv, dep]
  | .op _ l r => by
    have h1 := lv_dep l
    have h2 := lv_dep r
    have h3 : 2 ^ dep l ≤ 2 ^ max (dep l) (dep r) := Nat.pow_le_pow_right (by omega) (by omega)
    have h4 : 2 ^ dep r ≤ 2 ^ max (dep l) (dep r) := Nat.pow_le_pow_right (by omega) (by omega)
    simp only [lv, dep]
    rw [Nat.pow_add]
    omega
theorem two_pow_add {a b : Nat} (ha : 1 ≤ a) (hb : 1 ≤ b) : 2 ^ (50 * a) + 2 ^ (50 * b) ≤ 2 ^ (50 * (a + b)) := by
  have h1 : 2 ^ (50 * (a + b)) = 2 ^ (50 * a) * 2 ^ (50 * b) := by rw [Nat.mul_add, Nat.pow_add]
  have h2 : 2 ≤ 2 ^ (50 * a) := by
    have : 2 ^ 1 ≤ 2 ^ (50 * a) := Nat.pow_le_pow_right (by omega) (by omega)
    omega
  have h3 : 2 ≤ 2 ^ (50 * b) := by
    have : 2 ^ 1 ≤ 2 ^ (50 * b) := Nat.pow_le_pow_right (by omega) (by omega)
    omega
  rw [h1]
  generalize 2 ^ (50 * a) = A at *
  generalize 2 ^ (50 * b) = B at *
  obtain ⟨A', rfl⟩ : ∃ x, A = x + 2 := ⟨A - 2, by omega⟩
  obtain ⟨B', rfl⟩ : ∃ x, B = x + 2 := ⟨B - 2, by omega⟩
  have : (A' + 2) * (B' + 2) = A' * B' + 2 * A' + 2 * B' + 4 := by rw [Nat.add_mul, Nat.mul_add, Nat.mul_add]; omega
  omega
theorem val_big (g : Fin 4 → Int) (hg : ∀ j, big (g j)) : ∀ t, fine t → (val g t).natAbs ≤ 2 ^ (50 * lv t)
  | .num n, h => by
    have : (2:Nat) ^ 50 = 1125899906842624 := by decide
    simp only [fine] at h
    simp only [val, lv, Nat.mul_one]; omega
  | .box j, h => by
    have h1 := hg j
    have : (2:Nat) ^ 50 = 1125899906842624 := by decide
    simp only [val, lv, Nat.mul_one]; omega
  | .op 0 l r, h => by
    have h1 := val_big g hg l h.1
    have h2 := val_big g hg r h.2
    have h3 := two_pow_add (lv_pos l) (lv_pos r)
    have h4 := Int.natAbs_add_le (val g l) (val g r)
    simp only [val, lv]; omega
  | .op 1 l r, h => by
    have h1 := val_big g hg l h.1
    have h2 := val_big g hg r h.2
    have h3 := two_pow_add (lv_pos l) (lv_pos r)
    simp only [val, lv]; omega
  | .op 2 l r, h => by
    have h1 := val_big g hg l h.1
    have h2 := val_big g hg r h.2
    simp only [val, lv]
    rw [Int.natAbs_mul, Nat.mul_add, Nat.pow_add]
    exact Nat.mul_le_mul h1 h2
theorem dMul_big {i j : Int} {a b : Nat} (h1 : i.natAbs ≤ 2 ^ (50 * a)) (h2 : j.natAbs ≤ 2 ^ (50 * b)) (ha : a ≤ 64) (hb : b ≤ 64) : dMul (tI i) (tI j) = some (tI (i * j)) := by
  have key : ∀ {n c : Nat}, n ≤ 2 ^ (50 * c) → c ≤ 64 → n.log2 < 10000 := by
    intro n c h hc
    by_cases h0 : n = 0
    · subst h0; decide
    · rw [Nat.log2_lt h0]
      have : 2 ^ (50 * c) < 2 ^ 10000 := Nat.pow_lt_pow_right (by omega) (by omega)
      omega
  have k1 := key h1 ha
  have k2 := key h2 hb
  unfold dMul dInt2C
  have : cMul i j = true := decide_eq_true (.inr (.inr (by omega)))
  simp only [this, if_true]
end My
namespace My
open PySem L2 Z
def gv (a b c e : Int) : Fin 4 → Int
  | 0 => c
  | 1 => e
  | 2 => b
  | 3 => a
theorem get_ok (a b c d e : Int) : ∀ j : Fin 4, getD_ K5 [tI a, tI b, tI c, tI d, tI e] (.inr (nmJ j)) = some (tI (gv a b c e j))
  | 0 => by simp [K5, kB, kABC, kA, kZZ, kAB, nmJ, gv, getD_cons, ofStr_inj]
  | 1 => by simp [K5, kB, kABC, kA, kZZ, kAB, nmJ, gv, getD_cons, ofStr_inj]
  | 2 => by simp [K5, kB, kABC, kA, kZZ, kAB, nmJ, gv, getD_cons, ofStr_inj]
  | 3 => by simp [K5, kB, kABC, kA, kZZ, kAB, nmJ, gv, getD_cons, ofStr_inj]
theorem worth_ok (g : Fin 4 → Int) (hg : ∀ j, big (g j)) (o : O) (ho : o = .own ∨ o = .fro) (ks : List Key) (es : List D) (hget : ∀ j, getD_ ks es (.inr (nmJ j)) = some (tI (g j))) (hce : cleans es = true) : ∀ (t : Tr) (n : Nat), dep t < n → dep t ≤ 5 → fine t → F_worth n [encT t, .dic o ks es] = some (tI (val g t), [some (encT t), some (.dic o ks es)]) := by
  intro t
  induction t with
  | num v =>
    intro n hn _ _
    cases n with
    | zero => omega
    | succ n => rcases ho with rfl | rfl <;> simp [fnM_k, mSeq_k, mIf_k, mIfE_k, mOp_k, mLook_k, mVar_k, mMove_k, mTst_k, mAnd_k, mOr_k, mNot_k, mAndV_k, mOrV_k, mNotV_k, mNeg_k, mAsg_k, mRet_k, mRetN, mDrop_k, mSkip, mC, mK, mCons_k, mNil, mFn_k, mSetIx_k, mAug_k, mAppend_k, mAsgT_k, mIt_k, mRngA_k, mFor_k, mLc_k, mCall_k, mArgs_nil, mArgs_ex, mArgs_bo, take_nil, take_ex, take_bo, put_nil, put_bo, put_ex, outs, fxOf, ofStr_inj, dAdd_int, dSub_eq, clean, cleans, mIsN_k, mIsNV_k, isN, mPutK_k, mNewK_k, dDictD_1, mFrz_k, orFz_k, fzAt_k, mPar_k, mEnum_k, mZip_k, mLookL_k, mMt_k, itemsS_1, dJoin_1, dStrF_1, dAdd_str, mChn_k, mRev_k, mExtend_k, mPop_k, mClear_k, mLookA_k, mLookR_k, mInV_k, mPairs_nil, mPairs_cons, mDisp_k, dMin2_1, dMax2_1, dAbs_1, dIntF_1, dIntF_2, isDic_d, isDic_v, isDic_t, isDic_k, isDic_l, dKey_i, dKey_s, dKx_i, dKx_s, dKin_i, dKin_s, getD_nil, getD_cons, hasK_nil, hasK_cons, putD_eq, mergeD_nil, mergeD_cons, dInF, dFdiv_eq, dMod_eq, dMul_r, dMul_l, dPow_eq, dShr_eq, dLt_eq, dLe_eq, dGt_eq, dGe_eq, dEq_int, dNe_int, dEq_bl, dNe_bl, dEq_str, dNe_str, atI_z, atI_lit, atI_n, ixN_lit, ixN_n, fz, fzs, fzO, mYes, wipeD, mBrk, mCnt, seqK_1, seqK_2, seqK_3, seqK_4, seqK_5, ifK_1, ifK_2, ifK_3, opK3_1, opK3_2, opK2_1, opK2_2, opK_1, opK_2, lookK3_1, lookK3_2, lookK2_1, lookK2_2, lookK1_1, lookK1_2, lookK_1, lookK_2, varK_1, varK_2, moveK_1, moveK_2, tstK_1, tstK_2, andK_1, andK_2, andK_3, orK_1, orK_2, orK_3, notK_1, notK_2, andVK_1, andVK_2, andVK_3, orVK_1, orVK_2, orVK_3, notVK_1, notVK_2, negK_1, negK_2, asgK_1, asgK_2, retK_1, retK_2, dropK_1, dropK_2, consK2_1, consK2_2, consK_1, consK_2, fnK_1, fnK_2, setIxK3_1, setIxK3_2, setIxK2_1, setIxK2_2, setIxK1_1, setIxK1_2, setIxK0_1, setIxK0_2, setIxK_1, setIxK_2, augK2_1, augK2_2, augK_1, augK_2, appendK1_1, appendK1_2, appendK0_1, appendK0_2, appendK_1, appendK_2, asgTK2_1, asgTK2_2, asgTK_1, asgTK_2, itK2_1, itK2_2, itK_1, itK_2, rngK_1, rngK_2, forK_1, forK_2, turnK_1, turnK_2, turnK_3, turnK_4, turnK_5, turnK0_1, turnK0_2, lcK1_1, lcK1_2, lcK_1, lcK_2, lcT2_1, lcT2_2, lcT1_1, lcT1_2, lcT1_3, lcT0_1, lcT0_2, callK2_1, callK2_2, callK1_1, callK1_2, callK_1, callK_2, argK2_1, argK2_2, argK_1, argK_2, argB_1, argB_2, takeK_1, takeK_2, takeB_1, takeB_2, fnMK_1, fnMK_2, fnMK_3, isNK_1, isNK_2, isNVK_1, isNVK_2, chnK3_1, chnK3_2, chnK2_1, chnK2_2, chnK_1, chnK_2, revK_1, revK_2, extendK1_1, extendK1_2, extendK0_1, extendK0_2, extendK0_3, extendK_1, extendK_2, popK2_1, popK2_2, popK_1, popK_2, clearK_1, clearK_2, lookAK_1, lookAK_2, lookRK2_1, lookRK2_2, lookRK_1, lookRK_2, inVK_1, inVK_2, pairsK4_1, pairsK4_2, pairsK3_1, pairsK3_2, pairsK2_1, pairsK2_2, pairsK_1, pairsK_2, dispK2_1, dispK2_2, dispK_1, dispK_2, mergeK__1, mergeK__2, parK2_1, parK2_2, parK_1, parK_2, enumK_1, enumK_2, zipK_1, zipK_2, lookLK_1, lookLK_2, mtK2_1, mtK2_2, mtK_1, mtK_2, orFzK_1, orFzK_2, fzAtK_1, fzAtK_2, frzK_1, frzK_2, putKK5_1, putKK5_2, putKK4_1, putKK4_2, putKK3_1, putKK3_2, putKK2_1, putKK2_2, putKK1_1, putKK1_2, putKK_1, putKK_2, dIx_l, dIx_t, dIx_k, gNl_1, csK_1, gCs_1, gTu_1, itemsL_1, itemsT_1, mRng_1, mRng_2, dTup_1, dLst_1, setSlot_1, setK_1, gNm_1, dLen_l, dLen_t, dTuple_l, dTuple_t, dList_l, dList_t, oNo_1, oYes_k, oK_1, mSl_k, slK_1, slK1_1, slK2_1, dCut_l, dCut_t, F_worth, m_worth, encT, val]
  | box j =>
    intro n hn _ _
    have hj := hget j
    cases n with
    | zero => omega
    | succ n => rcases ho with rfl | rfl <;> simp [fnM_k, mSeq_k, mIf_k, mIfE_k, mOp_k, mLook_k, mVar_k, mMove_k, mTst_k, mAnd_k, mOr_k, mNot_k, mAndV_k, mOrV_k, mNotV_k, mNeg_k, mAsg_k, mRet_k, mRetN, mDrop_k, mSkip, mC, mK, mCons_k, mNil, mFn_k, mSetIx_k, mAug_k, mAppend_k, mAsgT_k, mIt_k, mRngA_k, mFor_k, mLc_k, mCall_k, mArgs_nil, mArgs_ex, mArgs_bo, take_nil, take_ex, take_bo, put_nil, put_bo, put_ex, outs, fxOf, ofStr_inj, dAdd_int, dSub_eq, clean, cleans, mIsN_k, mIsNV_k, isN, mPutK_k, mNewK_k, dDictD_1, mFrz_k, orFz_k, fzAt_k, mPar_k, mEnum_k, mZip_k, mLookL_k, mMt_k, itemsS_1, dJoin_1, dStrF_1, dAdd_str, mChn_k, mRev_k, mExtend_k, mPop_k, mClear_k, mLookA_k, mLookR_k, mInV_k, mPairs_nil, mPairs_cons, mDisp_k, dMin2_1, dMax2_1, dAbs_1, dIntF_1, dIntF_2, isDic_d, isDic_v, isDic_t, isDic_k, isDic_l, dKey_i, dKey_s, dKx_i, dKx_s, dKin_i, dKin_s, getD_nil, getD_cons, hasK_nil, hasK_cons, putD_eq, mergeD_nil, mergeD_cons, dInF, dFdiv_eq, dMod_eq, dMul_r, dMul_l, dPow_eq, dShr_eq, dLt_eq, dLe_eq, dGt_eq, dGe_eq, dEq_int, dNe_int, dEq_bl, dNe_bl, dEq_str, dNe_str, atI_z, atI_lit, atI_n, ixN_lit, ixN_n, fz, fzs, fzO, mYes, wipeD, mBrk, mCnt, seqK_1, seqK_2, seqK_3, seqK_4, seqK_5, ifK_1, ifK_2, ifK_3, opK3_1, opK3_2, opK2_1, opK2_2, opK_1, opK_2, lookK3_1, lookK3_2, lookK2_1, lookK2_2, lookK1_1, lookK1_2, lookK_1, lookK_2, varK_1, varK_2, moveK_1, moveK_2, tstK_1, tstK_2, andK_1, andK_2, andK_3, orK_1, orK_2, orK_3, notK_1, notK_2, andVK_1, andVK_2, andVK_3, orVK_1, orVK_2, orVK_3, notVK_1, notVK_2, negK_1, negK_2, asgK_1, asgK_2, retK_1, retK_2, dropK_1, dropK_2, consK2_1, consK2_2, consK_1, consK_2, fnK_1, fnK_2, setIxK3_1, setIxK3_2, setIxK2_1, setIxK2_2, setIxK1_1, setIxK1_2, setIxK0_1, setIxK0_2, setIxK_1, setIxK_2, augK2_1, augK2_2, augK_1, augK_2, appendK1_1, appendK1_2, appendK0_1, appendK0_2, appendK_1, appendK_2, asgTK2_1, asgTK2_2, asgTK_1, asgTK_2, itK2_1, itK2_2, itK_1, itK_2, rngK_1, rngK_2, forK_1, forK_2, turnK_1, turnK_2, turnK_3, turnK_4, turnK_5, turnK0_1, turnK0_2, lcK1_1, lcK1_2, lcK_1, lcK_2, lcT2_1, lcT2_2, lcT1_1, lcT1_2, lcT1_3, lcT0_1, lcT0_2, callK2_1, callK2_2, callK1_1, callK1_2, callK_1, callK_2, argK2_1, argK2_2, argK_1, argK_2, argB_1, argB_2, takeK_1, takeK_2, takeB_1, takeB_2, fnMK_1, fnMK_2, fnMK_3, isNK_1, isNK_2, isNVK_1, isNVK_2, chnK3_1, chnK3_2, chnK2_1, chnK2_2, chnK_1, chnK_2, revK_1, revK_2, extendK1_1, extendK1_2, extendK0_1, extendK0_2, extendK0_3, extendK_1, extendK_2, popK2_1, popK2_2, popK_1, popK_2, clearK_1, clearK_2, lookAK_1, lookAK_2, lookRK2_1, lookRK2_2, lookRK_1, lookRK_2, inVK_1, inVK_2, pairsK4_1, pairsK4_2, pairsK3_1, pairsK3_2, pairsK2_1, pairsK2_2, pairsK_1, pairsK_2, dispK2_1, dispK2_2, dispK_1, dispK_2, mergeK__1, mergeK__2, parK2_1, parK2_2, parK_1, parK_2, enumK_1, enumK_2, zipK_1, zipK_2, lookLK_1, lookLK_2, mtK2_1, mtK2_2, mtK_1, mtK_2, orFzK_1, orFzK_2, fzAtK_1, fzAtK_2, frzK_1, frzK_2, putKK5_1, putKK5_2, putKK4_1, putKK4_2, putKK3_1, putKK3_2, putKK2_1, putKK2_2, putKK1_1, putKK1_2, putKK_1, putKK_2, dIx_l, dIx_t, dIx_k, gNl_1, csK_1, gCs_1, gTu_1, itemsL_1, itemsT_1, mRng_1, mRng_2, dTup_1, dLst_1, setSlot_1, setK_1, gNm_1, dLen_l, dLen_t, dTuple_l, dTuple_t, dList_l, dList_t, oNo_1, oYes_k, oK_1, mSl_k, slK_1, slK1_1, slK2_1, dCut_l, dCut_t, F_worth, m_worth, encT, val, hj, hce]
  | op c l r ihl ihr =>
    intro n hn h5 hf
    cases n with
    | zero => omega
    | succ n =>
      simp only [dep] at hn h5
      have e1 := ihl n (by omega) (by omega) hf.1
      have e2 := ihr n (by omega) (by omega) hf.2
      have b1 := val_big g hg l hf.1
      have b2 := val_big g hg r hf.2
      have hl : lv l ≤ 64 := by
        have := lv_dep l
        have h3 : 2 ^ dep l ≤ 2 ^ 5 := Nat.pow_le_pow_right (by omega) (by omega)
        omega
      have hr : lv r ≤ 64 := by
        have := lv_dep r
        have h3 : 2 ^ dep r ≤ 2 ^ 5 := Nat.pow_le_pow_right (by omega) (by omega)
        omega
      have hm := dMul_big b1 b2 hl hr
      have c1 := clean_T l
      have c2 := clean_T r
      match c with
      | 0 => rcases ho with rfl | rfl <;> simp [fnM_k, mSeq_k, mIf_k, mIfE_k, mOp_k, mLook_k, mVar_k, mMove_k, mTst_k, mAnd_k, mOr_k, mNot_k, mAndV_k, mOrV_k, mNotV_k, mNeg_k, mAsg_k, mRet_k, mRetN, mDrop_k, mSkip, mC, mK, mCons_k, mNil, mFn_k, mSetIx_k, mAug_k, mAppend_k, mAsgT_k, mIt_k, mRngA_k, mFor_k, mLc_k, mCall_k, mArgs_nil, mArgs_ex, mArgs_bo, take_nil, take_ex, take_bo, put_nil, put_bo, put_ex, outs, fxOf, ofStr_inj, dAdd_int, dSub_eq, clean, cleans, mIsN_k, mIsNV_k, isN, mPutK_k, mNewK_k, dDictD_1, mFrz_k, orFz_k, fzAt_k, mPar_k, mEnum_k, mZip_k, mLookL_k, mMt_k, itemsS_1, dJoin_1, dStrF_1, dAdd_str, mChn_k, mRev_k, mExtend_k, mPop_k, mClear_k, mLookA_k, mLookR_k, mInV_k, mPairs_nil, mPairs_cons, mDisp_k, dMin2_1, dMax2_1, dAbs_1, dIntF_1, dIntF_2, isDic_d, isDic_v, isDic_t, isDic_k, isDic_l, dKey_i, dKey_s, dKx_i, dKx_s, dKin_i, dKin_s, getD_nil, getD_cons, hasK_nil, hasK_cons, putD_eq, mergeD_nil, mergeD_cons, dInF, dFdiv_eq, dMod_eq, dMul_r, dMul_l, dPow_eq, dShr_eq, dLt_eq, dLe_eq, dGt_eq, dGe_eq, dEq_int, dNe_int, dEq_bl, dNe_bl, dEq_str, dNe_str, atI_z, atI_lit, atI_n, ixN_lit, ixN_n, fz, fzs, fzO, mYes, wipeD, mBrk, mCnt, seqK_1, seqK_2, seqK_3, seqK_4, seqK_5, ifK_1, ifK_2, ifK_3, opK3_1, opK3_2, opK2_1, opK2_2, opK_1, opK_2, lookK3_1, lookK3_2, lookK2_1, lookK2_2, lookK1_1, lookK1_2, lookK_1, lookK_2, varK_1, varK_2, moveK_1, moveK_2, tstK_1, tstK_2, andK_1, andK_2, andK_3, orK_1, orK_2, orK_3, notK_1, notK_2, andVK_1, andVK_2, andVK_3, orVK_1, orVK_2, orVK_3, notVK_1, notVK_2, negK_1, negK_2, asgK_1, asgK_2, retK_1, retK_2, dropK_1, dropK_2, consK2_1, consK2_2, consK_1, consK_2, fnK_1, fnK_2, setIxK3_1, setIxK3_2, setIxK2_1, setIxK2_2, setIxK1_1, setIxK1_2, setIxK0_1, setIxK0_2, setIxK_1, setIxK_2, augK2_1, augK2_2, augK_1, augK_2, appendK1_1, appendK1_2, appendK0_1, appendK0_2, appendK_1, appendK_2, asgTK2_1, asgTK2_2, asgTK_1, asgTK_2, itK2_1, itK2_2, itK_1, itK_2, rngK_1, rngK_2, forK_1, forK_2, turnK_1, turnK_2, turnK_3, turnK_4, turnK_5, turnK0_1, turnK0_2, lcK1_1, lcK1_2, lcK_1, lcK_2, lcT2_1, lcT2_2, lcT1_1, lcT1_2, lcT1_3, lcT0_1, lcT0_2, callK2_1, callK2_2, callK1_1, callK1_2, callK_1, callK_2, argK2_1, argK2_2, argK_1, argK_2, argB_1, argB_2, takeK_1, takeK_2, takeB_1, takeB_2, fnMK_1, fnMK_2, fnMK_3, isNK_1, isNK_2, isNVK_1, isNVK_2, chnK3_1, chnK3_2, chnK2_1, chnK2_2, chnK_1, chnK_2, revK_1, revK_2, extendK1_1, extendK1_2, extendK0_1, extendK0_2, extendK0_3, extendK_1, extendK_2, popK2_1, popK2_2, popK_1, popK_2, clearK_1, clearK_2, lookAK_1, lookAK_2, lookRK2_1, lookRK2_2, lookRK_1, lookRK_2, inVK_1, inVK_2, pairsK4_1, pairsK4_2, pairsK3_1, pairsK3_2, pairsK2_1, pairsK2_2, pairsK_1, pairsK_2, dispK2_1, dispK2_2, dispK_1, dispK_2, mergeK__1, mergeK__2, parK2_1, parK2_2, parK_1, parK_2, enumK_1, enumK_2, zipK_1, zipK_2, lookLK_1, lookLK_2, mtK2_1, mtK2_2, mtK_1, mtK_2, orFzK_1, orFzK_2, fzAtK_1, fzAtK_2, frzK_1, frzK_2, putKK5_1, putKK5_2, putKK4_1, putKK4_2, putKK3_1, putKK3_2, putKK2_1, putKK2_2, putKK1_1, putKK1_2, putKK_1, putKK_2, dIx_l, dIx_t, dIx_k, gNl_1, csK_1, gCs_1, gTu_1, itemsL_1, itemsT_1, mRng_1, mRng_2, dTup_1, dLst_1, setSlot_1, setK_1, gNm_1, dLen_l, dLen_t, dTuple_l, dTuple_t, dList_l, dList_t, oNo_1, oYes_k, oK_1, mSl_k, slK_1, slK1_1, slK2_1, dCut_l, dCut_t, F_worth, m_worth, encT, val, opJ, e1, e2, c1, c2, hce]
      | 1 => rcases ho with rfl | rfl <;> simp [fnM_k, mSeq_k, mIf_k, mIfE_k, mOp_k, mLook_k, mVar_k, mMove_k, mTst_k, mAnd_k, mOr_k, mNot_k, mAndV_k, mOrV_k, mNotV_k, mNeg_k, mAsg_k, mRet_k, mRetN, mDrop_k, mSkip, mC, mK, mCons_k, mNil, mFn_k, mSetIx_k, mAug_k, mAppend_k, mAsgT_k, mIt_k, mRngA_k, mFor_k, mLc_k, mCall_k, mArgs_nil, mArgs_ex, mArgs_bo, take_nil, take_ex, take_bo, put_nil, put_bo, put_ex, outs, fxOf, ofStr_inj, dAdd_int, dSub_eq, clean, cleans, mIsN_k, mIsNV_k, isN, mPutK_k, mNewK_k, dDictD_1, mFrz_k, orFz_k, fzAt_k, mPar_k, mEnum_k, mZip_k, mLookL_k, mMt_k, itemsS_1, dJoin_1, dStrF_1, dAdd_str, mChn_k, mRev_k, mExtend_k, mPop_k, mClear_k, mLookA_k, mLookR_k, mInV_k, mPairs_nil, mPairs_cons, mDisp_k, dMin2_1, dMax2_1, dAbs_1, dIntF_1, dIntF_2, isDic_d, isDic_v, isDic_t, isDic_k, isDic_l, dKey_i, dKey_s, dKx_i, dKx_s, dKin_i, dKin_s, getD_nil, getD_cons, hasK_nil, hasK_cons, putD_eq, mergeD_nil, mergeD_cons, dInF, dFdiv_eq, dMod_eq, dMul_r, dMul_l, dPow_eq, dShr_eq, dLt_eq, dLe_eq, dGt_eq, dGe_eq, dEq_int, dNe_int, dEq_bl, dNe_bl, dEq_str, dNe_str, atI_z, atI_lit, atI_n, ixN_lit, ixN_n, fz, fzs, fzO, mYes, wipeD, mBrk, mCnt, seqK_1, seqK_2, seqK_3, seqK_4, seqK_5, ifK_1, ifK_2, ifK_3, opK3_1, opK3_2, opK2_1, opK2_2, opK_1, opK_2, lookK3_1, lookK3_2, lookK2_1, lookK2_2, lookK1_1, lookK1_2, lookK_1, lookK_2, varK_1, varK_2, moveK_1, moveK_2, tstK_1, tstK_2, andK_1, andK_2, andK_3, orK_1, orK_2, orK_3, notK_1, notK_2, andVK_1, andVK_2, andVK_3, orVK_1, orVK_2, orVK_3, notVK_1, notVK_2, negK_1, negK_2, asgK_1, asgK_2, retK_1, retK_2, dropK_1, dropK_2, consK2_1, consK2_2, consK_1, consK_2, fnK_1, fnK_2, setIxK3_1, setIxK3_2, setIxK2_1, setIxK2_2, setIxK1_1, setIxK1_2, setIxK0_1, setIxK0_2, setIxK_1, setIxK_2, augK2_1, augK2_2, augK_1, augK_2, appendK1_1, appendK1_2, appendK0_1, appendK0_2, appendK_1, appendK_2, asgTK2_1, asgTK2_2, asgTK_1, asgTK_2, itK2_1, itK2_2, itK_1, itK_2, rngK_1, rngK_2, forK_1, forK_2, turnK_1, turnK_2, turnK_3, turnK_4, turnK_5, turnK0_1, turnK0_2, lcK1_1, lcK1_2, lcK_1, lcK_2, lcT2_1, lcT2_2, lcT1_1, lcT1_2, lcT1_3, lcT0_1, lcT0_2, callK2_1, callK2_2, callK1_1, callK1_2, callK_1, callK_2, argK2_1, argK2_2, argK_1, argK_2, argB_1, argB_2, takeK_1, takeK_2, takeB_1, takeB_2, fnMK_1, fnMK_2, fnMK_3, isNK_1, isNK_2, isNVK_1, isNVK_2, chnK3_1, chnK3_2, chnK2_1, chnK2_2, chnK_1, chnK_2, revK_1, revK_2, extendK1_1, extendK1_2, extendK0_1, extendK0_2, extendK0_3, extendK_1, extendK_2, popK2_1, popK2_2, popK_1, popK_2, clearK_1, clearK_2, lookAK_1, lookAK_2, lookRK2_1, lookRK2_2, lookRK_1, lookRK_2, inVK_1, inVK_2, pairsK4_1, pairsK4_2, pairsK3_1, pairsK3_2, pairsK2_1, pairsK2_2, pairsK_1, pairsK_2, dispK2_1, dispK2_2, dispK_1, dispK_2, mergeK__1, mergeK__2, parK2_1, parK2_2, parK_1, parK_2, enumK_1, enumK_2, zipK_1, zipK_2, lookLK_1, lookLK_2, mtK2_1, mtK2_2, mtK_1, mtK_2, orFzK_1, orFzK_2, fzAtK_1, fzAtK_2, frzK_1, frzK_2, putKK5_1, putKK5_2, putKK4_1, putKK4_2, putKK3_1, putKK3_2, putKK2_1, putKK2_2, putKK1_1, putKK1_2, putKK_1, putKK_2, dIx_l, dIx_t, dIx_k, gNl_1, csK_1, gCs_1, gTu_1, itemsL_1, itemsT_1, mRng_1, mRng_2, dTup_1, dLst_1, setSlot_1, setK_1, gNm_1, dLen_l, dLen_t, dTuple_l, dTuple_t, dList_l, dList_t, oNo_1, oYes_k, oK_1, mSl_k, slK_1, slK1_1, slK2_1, dCut_l, dCut_t, F_worth, m_worth, encT, val, opJ, e1, e2, c1, c2, hce]
      | 2 => rcases ho with rfl | rfl <;> simp [fnM_k, mSeq_k, mIf_k, mIfE_k, mOp_k, mLook_k, mVar_k, mMove_k, mTst_k, mAnd_k, mOr_k, mNot_k, mAndV_k, mOrV_k, mNotV_k, mNeg_k, mAsg_k, mRet_k, mRetN, mDrop_k, mSkip, mC, mK, mCons_k, mNil, mFn_k, mSetIx_k, mAug_k, mAppend_k, mAsgT_k, mIt_k, mRngA_k, mFor_k, mLc_k, mCall_k, mArgs_nil, mArgs_ex, mArgs_bo, take_nil, take_ex, take_bo, put_nil, put_bo, put_ex, outs, fxOf, ofStr_inj, dAdd_int, dSub_eq, clean, cleans, mIsN_k, mIsNV_k, isN, mPutK_k, mNewK_k, dDictD_1, mFrz_k, orFz_k, fzAt_k, mPar_k, mEnum_k, mZip_k, mLookL_k, mMt_k, itemsS_1, dJoin_1, dStrF_1, dAdd_str, mChn_k, mRev_k, mExtend_k, mPop_k, mClear_k, mLookA_k, mLookR_k, mInV_k, mPairs_nil, mPairs_cons, mDisp_k, dMin2_1, dMax2_1, dAbs_1, dIntF_1, dIntF_2, isDic_d, isDic_v, isDic_t, isDic_k, isDic_l, dKey_i, dKey_s, dKx_i, dKx_s, dKin_i, dKin_s, getD_nil, getD_cons, hasK_nil, hasK_cons, putD_eq, mergeD_nil, mergeD_cons, dInF, dFdiv_eq, dMod_eq, dMul_r, dMul_l, dPow_eq, dShr_eq, dLt_eq, dLe_eq, dGt_eq, dGe_eq, dEq_int, dNe_int, dEq_bl, dNe_bl, dEq_str, dNe_str, atI_z, atI_lit, atI_n, ixN_lit, ixN_n, fz, fzs, fzO, mYes, wipeD, mBrk, mCnt, seqK_1, seqK_2, seqK_3, seqK_4, seqK_5, ifK_1, ifK_2, ifK_3, opK3_1, opK3_2, opK2_1, opK2_2, opK_1, opK_2, lookK3_1, lookK3_2, lookK2_1, lookK2_2, lookK1_1, lookK1_2, lookK_1, lookK_2, varK_1, varK_2, moveK_1, moveK_2, tstK_1, tstK_2, andK_1, andK_2, andK_3, orK_1, orK_2, orK_3, notK_1, notK_2, andVK_1, andVK_2, andVK_3, orVK_1, orVK_2, orVK_3, notVK_1, notVK_2, negK_1, negK_2, asgK_1, asgK_2, retK_1, retK_2, dropK_1, dropK_2, consK2_1, consK2_2, consK_1, consK_2, fnK_1, fnK_2, setIxK3_1, setIxK3_2, setIxK2_1, setIxK2_2, setIxK1_1, setIxK1_2, setIxK0_1, setIxK0_2, setIxK_1, setIxK_2, augK2_1, augK2_2, augK_1, augK_2, appendK1_1, appendK1_2, appendK0_1, appendK0_2, appendK_1, appendK_2, asgTK2_1, asgTK2_2, asgTK_1, asgTK_2, itK2_1, itK2_2, itK_1, itK_2, rngK_1, rngK_2, forK_1, forK_2, turnK_1, turnK_2, turnK_3, turnK_4, turnK_5, turnK0_1, turnK0_2, lcK1_1, lcK1_2, lcK_1, lcK_2, lcT2_1, lcT2_2, lcT1_1, lcT1_2, lcT1_3, lcT0_1, lcT0_2, callK2_1, callK2_2, callK1_1, callK1_2, callK_1, callK_2, argK2_1, argK2_2, argK_1, argK_2, argB_1, argB_2, takeK_1, takeK_2, takeB_1, takeB_2, fnMK_1, fnMK_2, fnMK_3, isNK_1, isNK_2, isNVK_1, isNVK_2, chnK3_1, chnK3_2, chnK2_1, chnK2_2, chnK_1, chnK_2, revK_1, revK_2, extendK1_1, extendK1_2, extendK0_1, extendK0_2, extendK0_3, extendK_1, extendK_2, popK2_1, popK2_2, popK_1, popK_2, clearK_1, clearK_2, lookAK_1, lookAK_2, lookRK2_1, lookRK2_2, lookRK_1, lookRK_2, inVK_1, inVK_2, pairsK4_1, pairsK4_2, pairsK3_1, pairsK3_2, pairsK2_1, pairsK2_2, pairsK_1, pairsK_2, dispK2_1, dispK2_2, dispK_1, dispK_2, mergeK__1, mergeK__2, parK2_1, parK2_2, parK_1, parK_2, enumK_1, enumK_2, zipK_1, zipK_2, lookLK_1, lookLK_2, mtK2_1, mtK2_2, mtK_1, mtK_2, orFzK_1, orFzK_2, fzAtK_1, fzAtK_2, frzK_1, frzK_2, putKK5_1, putKK5_2, putKK4_1, putKK4_2, putKK3_1, putKK3_2, putKK2_1, putKK2_2, putKK1_1, putKK1_2, putKK_1, putKK_2, dIx_l, dIx_t, dIx_k, gNl_1, csK_1, gCs_1, gTu_1, itemsL_1, itemsT_1, mRng_1, mRng_2, dTup_1, dLst_1, setSlot_1, setK_1, gNm_1, dLen_l, dLen_t, dTuple_l, dTuple_t, dList_l, dList_t, oNo_1, oYes_k, oK_1, mSl_k, slK_1, slK1_1, slK2_1, dCut_l, dCut_t, F_worth, m_worth, encT, val, opJ, e1, e2, c1, c2, hce, ↓hm]
end My
namespace My
open PySem L2 Z
theorem neg_loop (x0 x1 x2 x3 x4 : Option D) (o6 : Option D) : ∀ (ys : List Int), lcL (gNm 5) mYes (mOp dSub (mC (.int 0)) (mVar 5)) [5] (intsD ys) [x0, x1, x2, x3, x4, none, o6] = some (intsD (ys.map fun y => 0 - y), [x0, x1, x2, x3, x4, none, o6]) := by
  intro ys
  induction ys with
  | nil => rfl
  | cons y ys ih =>
    rw [intsD_cons, lcL_cons]
    simp [fnM_k, mSeq_k, mIf_k, mIfE_k, mOp_k, mLook_k, mVar_k, mMove_k, mTst_k, mAnd_k, mOr_k, mNot_k, mAndV_k, mOrV_k, mNotV_k, mNeg_k, mAsg_k, mRet_k, mRetN, mDrop_k, mSkip, mC, mK, mCons_k, mNil, mFn_k, mSetIx_k, mAug_k, mAppend_k, mAsgT_k, mIt_k, mRngA_k, mFor_k, mLc_k, mCall_k, mArgs_nil, mArgs_ex, mArgs_bo, take_nil, take_ex, take_bo, put_nil, put_bo, put_ex, outs, fxOf, ofStr_inj, dAdd_int, dSub_eq, clean, cleans, mIsN_k, mIsNV_k, isN, mPutK_k, mNewK_k, dDictD_1, mFrz_k, orFz_k, fzAt_k, mPar_k, mEnum_k, mZip_k, mLookL_k, mMt_k, itemsS_1, dJoin_1, dStrF_1, dAdd_str, mChn_k, mRev_k, mExtend_k, mPop_k, mClear_k, mLookA_k, mLookR_k, mInV_k, mPairs_nil, mPairs_cons, mDisp_k, dMin2_1, dMax2_1, dAbs_1, dIntF_1, dIntF_2, isDic_d, isDic_v, isDic_t, isDic_k, isDic_l, dKey_i, dKey_s, dKx_i, dKx_s, dKin_i, dKin_s, getD_nil, getD_cons, hasK_nil, hasK_cons, putD_eq, mergeD_nil, mergeD_cons, dInF, dFdiv_eq, dMod_eq, dMul_r, dMul_l, dPow_eq, dShr_eq, dLt_eq, dLe_eq, dGt_eq, dGe_eq, dEq_int, dNe_int, dEq_bl, dNe_bl, dEq_str, dNe_str, atI_z, atI_lit, atI_n, ixN_lit, ixN_n, fz, fzs, fzO, mYes, wipeD, mBrk, mCnt, seqK_1, seqK_2, seqK_3, seqK_4, seqK_5, ifK_1, ifK_2, ifK_3, opK3_1, opK3_2, opK2_1, opK2_2, opK_1, opK_2, lookK3_1, lookK3_2, lookK2_1, lookK2_2, lookK1_1, lookK1_2, lookK_1, lookK_2, varK_1, varK_2, moveK_1, moveK_2, tstK_1, tstK_2, andK_1, andK_2, andK_3, orK_1, orK_2, orK_3, notK_1, notK_2, andVK_1, andVK_2, andVK_3, orVK_1, orVK_2, orVK_3, notVK_1, notVK_2, negK_1, negK_2, asgK_1, asgK_2, retK_1, retK_2, dropK_1, dropK_2, consK2_1, consK2_2, consK_1, consK_2, fnK_1, fnK_2, setIxK3_1, setIxK3_2, setIxK2_1, setIxK2_2, setIxK1_1, setIxK1_2, setIxK0_1, setIxK0_2, setIxK_1, setIxK_2, augK2_1, augK2_2, augK_1, augK_2, appendK1_1, appendK1_2, appendK0_1, appendK0_2, appendK_1, appendK_2, asgTK2_1, asgTK2_2, asgTK_1, asgTK_2, itK2_1, itK2_2, itK_1, itK_2, rngK_1, rngK_2, forK_1, forK_2, turnK_1, turnK_2, turnK_3, turnK_4, turnK_5, turnK0_1, turnK0_2, lcK1_1, lcK1_2, lcK_1, lcK_2, lcT2_1, lcT2_2, lcT1_1, lcT1_2, lcT1_3, lcT0_1, lcT0_2, callK2_1, callK2_2, callK1_1, callK1_2, callK_1, callK_2, argK2_1, argK2_2, argK_1, argK_2, argB_1, argB_2, takeK_1, takeK_2, takeB_1, takeB_2, fnMK_1, fnMK_2, fnMK_3, isNK_1, isNK_2, isNVK_1, isNVK_2, chnK3_1, chnK3_2, chnK2_1, chnK2_2, chnK_1, chnK_2, revK_1, revK_2, extendK1_1, extendK1_2, extendK0_1, extendK0_2, extendK0_3, extendK_1, extendK_2, popK2_1, popK2_2, popK_1, popK_2, clearK_1, clearK_2, lookAK_1, lookAK_2, lookRK2_1, lookRK2_2, lookRK_1, lookRK_2, inVK_1, inVK_2, pairsK4_1, pairsK4_2, pairsK3_1, pairsK3_2, pairsK2_1, pairsK2_2, pairsK_1, pairsK_2, dispK2_1, dispK2_2, dispK_1, dispK_2, mergeK__1, mergeK__2, parK2_1, parK2_2, parK_1, parK_2, enumK_1, enumK_2, zipK_1, zipK_2, lookLK_1, lookLK_2, mtK2_1, mtK2_2, mtK_1, mtK_2, orFzK_1, orFzK_2, fzAtK_1, fzAtK_2, frzK_1, frzK_2, putKK5_1, putKK5_2, putKK4_1, putKK4_2, putKK3_1, putKK3_2, putKK2_1, putKK2_2, putKK1_1, putKK1_2, putKK_1, putKK_2, dIx_l, dIx_t, dIx_k, gNl_1, csK_1, gCs_1, gTu_1, itemsL_1, itemsT_1, mRng_1, mRng_2, dTup_1, dLst_1, setSlot_1, setK_1, gNm_1, dLen_l, dLen_t, dTuple_l, dTuple_t, dList_l, dList_t, oNo_1, oYes_k, oK_1, mSl_k, slK_1, slK1_1, slK2_1, dCut_l, dCut_t, ih, List.map_cons, intsD_cons]
theorem mul_loop (x : Int) (A : Nat) (hx : x.natAbs ≤ 2 ^ (50 * A)) (hA : A ≤ 64) (B : Nat) (hB : B ≤ 64) (x0 x1 x2 x3 x4 : Option D) : ∀ (ys : List Int), (∀ y ∈ ys, y.natAbs ≤ 2 ^ (50 * B)) → lcL (gNm 6) mYes (mOp dMul (mVar 5) (mVar 6)) [6] (intsD ys) [x0, x1, x2, x3, x4, some (tI x), none] = some (intsD (ys.map fun y => x * y), [x0, x1, x2, x3, x4, some (tI x), none]) := by
  intro ys
  induction ys with
  | nil => intro _; rfl
  | cons y ys ih =>
    intro h
    have hm := dMul_big hx (h y (by simp)) hA hB
    have e := ih fun z hz => h z (by simp [hz])
    rw [intsD_cons, lcL_cons]
    simp [fnM_k, mSeq_k, mIf_k, mIfE_k, mOp_k, mLook_k, mVar_k, mMove_k, mTst_k, mAnd_k, mOr_k, mNot_k, mAndV_k, mOrV_k, mNotV_k, mNeg_k, mAsg_k, mRet_k, mRetN, mDrop_k, mSkip, mC, mK, mCons_k, mNil, mFn_k, mSetIx_k, mAug_k, mAppend_k, mAsgT_k, mIt_k, mRngA_k, mFor_k, mLc_k, mCall_k, mArgs_nil, mArgs_ex, mArgs_bo, take_nil, take_ex, take_bo, put_nil, put_bo, put_ex, outs, fxOf, ofStr_inj, dAdd_int, dSub_eq, clean, cleans, mIsN_k, mIsNV_k, isN, mPutK_k, mNewK_k, dDictD_1, mFrz_k, orFz_k, fzAt_k, mPar_k, mEnum_k, mZip_k, mLookL_k, mMt_k, itemsS_1, dJoin_1, dStrF_1, dAdd_str, mChn_k, mRev_k, mExtend_k, mPop_k, mClear_k, mLookA_k, mLookR_k, mInV_k, mPairs_nil, mPairs_cons, mDisp_k, dMin2_1, dMax2_1, dAbs_1, dIntF_1, dIntF_2, isDic_d, isDic_v, isDic_t, isDic_k, isDic_l, dKey_i, dKey_s, dKx_i, dKx_s, dKin_i, dKin_s, getD_nil, getD_cons, hasK_nil, hasK_cons, putD_eq, mergeD_nil, mergeD_cons, dInF, dFdiv_eq, dMod_eq, dMul_r, dMul_l, dPow_eq, dShr_eq, dLt_eq, dLe_eq, dGt_eq, dGe_eq, dEq_int, dNe_int, dEq_bl, dNe_bl, dEq_str, dNe_str, atI_z, atI_lit, atI_n, ixN_lit, ixN_n, fz, fzs, fzO, mYes, wipeD, mBrk, mCnt, seqK_1, seqK_2, seqK_3, seqK_4, seqK_5, ifK_1, ifK_2, ifK_3, opK3_1, opK3_2, opK2_1, opK2_2, opK_1, opK_2, lookK3_1, lookK3_2, lookK2_1, lookK2_2, lookK1_1, lookK1_2, lookK_1, lookK_2, varK_1, varK_2, moveK_1, moveK_2, tstK_1, tstK_2, andK_1, andK_2, andK_3, orK_1, orK_2, orK_3, notK_1, notK_2, andVK_1, andVK_2, andVK_3, orVK_1, orVK_2, orVK_3, notVK_1, notVK_2, negK_1, negK_2, asgK_1, asgK_2, retK_1, retK_2, dropK_1, dropK_2, consK2_1, consK2_2, consK_1, consK_2, fnK_1, fnK_2, setIxK3_1, setIxK3_2, setIxK2_1, setIxK2_2, setIxK1_1, setIxK1_2, setIxK0_1, setIxK0_2, setIxK_1, setIxK_2, augK2_1, augK2_2, augK_1, augK_2, appendK1_1, appendK1_2, appendK0_1, appendK0_2, appendK_1, appendK_2, asgTK2_1, asgTK2_2, asgTK_1, asgTK_2, itK2_1, itK2_2, itK_1, itK_2, rngK_1, rngK_2, forK_1, forK_2, turnK_1, turnK_2, turnK_3, turnK_4, turnK_5, turnK0_1, turnK0_2, lcK1_1, lcK1_2, lcK_1, lcK_2, lcT2_1, lcT2_2, lcT1_1, lcT1_2, lcT1_3, lcT0_1, lcT0_2, callK2_1, callK2_2, callK1_1, callK1_2, callK_1, callK_2, argK2_1, argK2_2, argK_1, argK_2, argB_1, argB_2, takeK_1, takeK_2, takeB_1, takeB_2, fnMK_1, fnMK_2, fnMK_3, isNK_1, isNK_2, isNVK_1, isNVK_2, chnK3_1, chnK3_2, chnK2_1, chnK2_2, chnK_1, chnK_2, revK_1, revK_2, extendK1_1, extendK1_2, extendK0_1, extendK0_2, extendK0_3, extendK_1, extendK_2, popK2_1, popK2_2, popK_1, popK_2, clearK_1, clearK_2, lookAK_1, lookAK_2, lookRK2_1, lookRK2_2, lookRK_1, lookRK_2, inVK_1, inVK_2, pairsK4_1, pairsK4_2, pairsK3_1, pairsK3_2, pairsK2_1, pairsK2_2, pairsK_1, pairsK_2, dispK2_1, dispK2_2, dispK_1, dispK_2, mergeK__1, mergeK__2, parK2_1, parK2_2, parK_1, parK_2, enumK_1, enumK_2, zipK_1, zipK_2, lookLK_1, lookLK_2, mtK2_1, mtK2_2, mtK_1, mtK_2, orFzK_1, orFzK_2, fzAtK_1, fzAtK_2, frzK_1, frzK_2, putKK5_1, putKK5_2, putKK4_1, putKK4_2, putKK3_1, putKK3_2, putKK2_1, putKK2_2, putKK1_1, putKK1_2, putKK_1, putKK_2, dIx_l, dIx_t, dIx_k, gNl_1, csK_1, gCs_1, gTu_1, itemsL_1, itemsT_1, mRng_1, mRng_2, dTup_1, dLst_1, setSlot_1, setK_1, gNm_1, dLen_l, dLen_t, dTuple_l, dTuple_t, dList_l, dList_t, oNo_1, oYes_k, oK_1, mSl_k, slK_1, slK1_1, slK2_1, dCut_l, dCut_t, e, ↓hm, List.map_cons, intsD_cons]
theorem sum_neg (ys : List Int) : (ys.map fun y => 0 - y).sum = - ys.sum := by
  induction ys with
  | nil => rfl
  | cons y ys ih => simp only [List.map_cons, List.sum_cons, ih]; omega
theorem sum_mul (x : Int) (ys : List Int) : (ys.map fun y => x * y).sum = x * ys.sum := by
  induction ys with
  | nil => simp
  | cons y ys ih => simp only [List.map_cons, List.sum_cons, ih, Int.mul_add]
theorem intsD_app (xs ys : List Int) : intsD xs ++ intsD ys = intsD (xs ++ ys) := by unfold intsD; rw [List.map_append]
theorem dSum_ok (ys : List Int) : ∀ o : O, dSum [.lst o (intsD ys)] = some (tI ys.sum) := by
  intro o
  have : dSumL (intsD ys) = some ys.sum := by
    induction ys with
    | nil => rfl
    | cons y ys ih => simp only [intsD_cons, dSumL, ih, List.sum_cons]
  unfold dSum
  simp only [this]
theorem dAdd_lst {o o2 : O} {xs ys : List D} (h1 : o = .own ∨ o = .fro) (h2 : o2 = .own ∨ o2 = .fro) (h : xs.length + ys.length ≤ 16777216) : dAdd (.lst o xs) (.lst o2 ys) = some (.lst .own (xs ++ ys)) := by
  show (if o ≠ O.ext ∧ o2 ≠ O.ext ∧ xs.length + ys.length ≤ 16777216 then some (D.lst O.own (xs ++ ys)) else none) = _
  rw [if_pos]
  exact ⟨by rcases h1 with rfl | rfl <;> decide, by rcases h2 with rfl | rfl <;> decide, h⟩
theorem mul_for (A B : Nat) (hA : A ≤ 64) (hB : B ≤ 64) (ys : List Int) (hys : ∀ y ∈ ys, y.natAbs ≤ 2 ^ (50 * B)) (hyl : ys.length ≤ 1000) (x0 x1 x2 : Option D) : ∀ (xs acc : List Int) (o3 : O) (o5 : Option D), (o3 = .own ∨ o3 = .fro) → (∀ x ∈ xs, x.natAbs ≤ 2 ^ (50 * A)) → acc.length + xs.length * ys.length ≤ 1000000 →
    ∃ (o3' : O) (o5' : Option D), (o3' = .own ∨ o3' = .fro) ∧ forL (gNm 5) (mAsg 4 (mOp dAdd (mVar 4) (mLc (mIt itemsL (mVar 3)) (gNm 6) mYes (mOp dMul (mVar 5) (mVar 6)) [6]))) (intsD xs) [x0, x1, x2, some (.lst o3 (intsD ys)), some (.lst .own (intsD acc)), o5, none] =
      some (.nx [x0, x1, x2, some (.lst o3' (intsD ys)), some (.lst .own (intsD (acc ++ xs.flatMap fun x => ys.map fun y => x * y))), o5', none]) := by
  intro xs
  induction xs with
  | nil => intro acc o3 o5 h3 _ _; exact ⟨o3, o5, h3, by simp [intsD, forL]⟩
  | cons x xs ih =>
    intro acc o3 o5 h3 hx hl
    have hml := mul_loop x A (hx x (by simp)) hA B hB x0 x1 x2 (some (.lst .fro (intsD ys))) (some (.lst .fro (intsD acc))) ys hys
    have hl2 : acc.length + ys.length + xs.length * ys.length ≤ 1000000 := by
      simp only [List.length_cons, Nat.add_mul] at hl; omega
    obtain ⟨o3', o5', h3', e⟩ := ih (acc ++ ys.map fun y => x * y) .fro (some (tI x)) (.inr rfl) (fun z hz => hx z (by simp [hz])) (by simp; omega)
    refine ⟨o3', o5', h3', ?_⟩
    have had : dAdd (.lst .fro (intsD acc)) (.lst .own (intsD (ys.map fun y => x * y))) = some (.lst .own (intsD (acc ++ ys.map fun y => x * y))) := by
      rw [dAdd_lst (.inr rfl) (.inl rfl) (by simp [intsD_len]; omega), intsD_app]
    have hc1 := cleans_ints ys
    have hf1 : fzs (intsD ys) = intsD ys := fzs_ints
    have hc2 := cleans_ints acc
    have hf2 : fzs (intsD acc) = intsD acc := fzs_ints
    have hll : (intsD ys).length ≤ 1000000 := by rw [intsD_len]; omega
    rw [intsD_cons, forL_cons]
    rw [List.flatMap_cons, ← List.append_assoc]
    generalize intsD ys = Y at *
    generalize intsD acc = C at *
    rcases h3 with rfl | rfl <;> simp [fnM_k, mSeq_k, mIf_k, mIfE_k, mOp_k, mLook_k, mVar_k, mMove_k, mTst_k, mAnd_k, mOr_k, mNot_k, mAndV_k, mOrV_k, mNotV_k, mNeg_k, mAsg_k, mRet_k, mRetN, mDrop_k, mSkip, mC, mK, mCons_k, mNil, mFn_k, mSetIx_k, mAug_k, mAppend_k, mAsgT_k, mIt_k, mRngA_k, mFor_k, mLc_k, mCall_k, mArgs_nil, mArgs_ex, mArgs_bo, take_nil, take_ex, take_bo, put_nil, put_bo, put_ex, outs, fxOf, ofStr_inj, dAdd_int, dSub_eq, clean, cleans, mIsN_k, mIsNV_k, isN, mPutK_k, mNewK_k, dDictD_1, mFrz_k, orFz_k, fzAt_k, mPar_k, mEnum_k, mZip_k, mLookL_k, mMt_k, itemsS_1, dJoin_1, dStrF_1, dAdd_str, mChn_k, mRev_k, mExtend_k, mPop_k, mClear_k, mLookA_k, mLookR_k, mInV_k, mPairs_nil, mPairs_cons, mDisp_k, dMin2_1, dMax2_1, dAbs_1, dIntF_1, dIntF_2, isDic_d, isDic_v, isDic_t, isDic_k, isDic_l, dKey_i, dKey_s, dKx_i, dKx_s, dKin_i, dKin_s, getD_nil, getD_cons, hasK_nil, hasK_cons, putD_eq, mergeD_nil, mergeD_cons, dInF, dFdiv_eq, dMod_eq, dMul_r, dMul_l, dPow_eq, dShr_eq, dLt_eq, dLe_eq, dGt_eq, dGe_eq, dEq_int, dNe_int, dEq_bl, dNe_bl, dEq_str, dNe_str, atI_z, atI_lit, atI_n, ixN_lit, ixN_n, fz, fzs, fzO, mYes, wipeD, mBrk, mCnt, seqK_1, seqK_2, seqK_3, seqK_4, seqK_5, ifK_1, ifK_2, ifK_3, opK3_1, opK3_2, opK2_1, opK2_2, opK_1, opK_2, lookK3_1, lookK3_2, lookK2_1, lookK2_2, lookK1_1, lookK1_2, lookK_1, lookK_2, varK_1, varK_2, moveK_1, moveK_2, tstK_1, tstK_2, andK_1, andK_2, andK_3, orK_1, orK_2, orK_3, notK_1, notK_2, andVK_1, andVK_2, andVK_3, orVK_1, orVK_2, orVK_3, notVK_1, notVK_2, negK_1, negK_2, asgK_1, asgK_2, retK_1, retK_2, dropK_1, dropK_2, consK2_1, consK2_2, consK_1, consK_2, fnK_1, fnK_2, setIxK3_1, setIxK3_2, setIxK2_1, setIxK2_2, setIxK1_1, setIxK1_2, setIxK0_1, setIxK0_2, setIxK_1, setIxK_2, augK2_1, augK2_2, augK_1, augK_2, appendK1_1, appendK1_2, appendK0_1, appendK0_2, appendK_1, appendK_2, asgTK2_1, asgTK2_2, asgTK_1, asgTK_2, itK2_1, itK2_2, itK_1, itK_2, rngK_1, rngK_2, forK_1, forK_2, turnK_1, turnK_2, turnK_3, turnK_4, turnK_5, turnK0_1, turnK0_2, lcK1_1, lcK1_2, lcK_1, lcK_2, lcT2_1, lcT2_2, lcT1_1, lcT1_2, lcT1_3, lcT0_1, lcT0_2, callK2_1, callK2_2, callK1_1, callK1_2, callK_1, callK_2, argK2_1, argK2_2, argK_1, argK_2, argB_1, argB_2, takeK_1, takeK_2, takeB_1, takeB_2, fnMK_1, fnMK_2, fnMK_3, isNK_1, isNK_2, isNVK_1, isNVK_2, chnK3_1, chnK3_2, chnK2_1, chnK2_2, chnK_1, chnK_2, revK_1, revK_2, extendK1_1, extendK1_2, extendK0_1, extendK0_2, extendK0_3, extendK_1, extendK_2, popK2_1, popK2_2, popK_1, popK_2, clearK_1, clearK_2, lookAK_1, lookAK_2, lookRK2_1, lookRK2_2, lookRK_1, lookRK_2, inVK_1, inVK_2, pairsK4_1, pairsK4_2, pairsK3_1, pairsK3_2, pairsK2_1, pairsK2_2, pairsK_1, pairsK_2, dispK2_1, dispK2_2, dispK_1, dispK_2, mergeK__1, mergeK__2, parK2_1, parK2_2, parK_1, parK_2, enumK_1, enumK_2, zipK_1, zipK_2, lookLK_1, lookLK_2, mtK2_1, mtK2_2, mtK_1, mtK_2, orFzK_1, orFzK_2, fzAtK_1, fzAtK_2, frzK_1, frzK_2, putKK5_1, putKK5_2, putKK4_1, putKK4_2, putKK3_1, putKK3_2, putKK2_1, putKK2_2, putKK1_1, putKK1_2, putKK_1, putKK_2, dIx_l, dIx_t, dIx_k, gNl_1, csK_1, gCs_1, gTu_1, itemsL_1, itemsT_1, mRng_1, mRng_2, dTup_1, dLst_1, setSlot_1, setK_1, gNm_1, dLen_l, dLen_t, dTuple_l, dTuple_t, dList_l, dList_t, oNo_1, oYes_k, oK_1, mSl_k, slK_1, slK1_1, slK2_1, dCut_l, dCut_t, hc1, hf1, hc2, hf2, hll, hml, ↓had, e]
theorem sum_flat (xs ys : List Int) : (xs.flatMap fun x => ys.map fun y => x * y).sum = xs.sum * ys.sum := by
  induction xs with
  | nil => simp
  | cons x xs ih => rw [List.flatMap_cons, List.sum_append, sum_mul, ih, List.sum_cons, Int.add_mul]
theorem len_flat (xs ys : List Int) : (xs.flatMap fun x => ys.map fun y => x * y).length = xs.length * ys.length := by
  induction xs with
  | nil => simp
  | cons x xs ih => rw [List.flatMap_cons, List.length_append, ih, List.length_map, List.length_cons, Nat.add_mul]; omega
theorem shares_ok (g : Fin 4 → Int) (hg : ∀ j, big (g j)) (ks : List Key) (es : List D) (o : O) (ho : o = .own ∨ o = .fro) (hget : ∀ j, getD_ ks es (.inr (nmJ j)) = some (tI (g j))) (hce : cleans es = true) : ∀ (t : Tr) (n : Nat), dep t < n → dep t ≤ 3 → fine t →
    ∃ xs : List Int, F__law_shares n [encT t, .dic o ks es] = some (.lst .own (intsD xs), [some (encT t), some (.dic o ks es)]) ∧ xs.sum = val g t ∧ (∀ x ∈ xs, x.natAbs ≤ 2 ^ (50 * lv t)) ∧ xs.length ≤ 2 ^ lv t := by
  intro t
  induction t with
  | num v =>
    intro n hn _ hf
    refine ⟨[v], ?_, by simp [val], ?_, by simp [lv]⟩
    · cases n with
      | zero => omega
      | succ n => rcases ho with rfl | rfl <;> simp [fnM_k, mSeq_k, mIf_k, mIfE_k, mOp_k, mLook_k, mVar_k, mMove_k, mTst_k, mAnd_k, mOr_k, mNot_k, mAndV_k, mOrV_k, mNotV_k, mNeg_k, mAsg_k, mRet_k, mRetN, mDrop_k, mSkip, mC, mK, mCons_k, mNil, mFn_k, mSetIx_k, mAug_k, mAppend_k, mAsgT_k, mIt_k, mRngA_k, mFor_k, mLc_k, mCall_k, mArgs_nil, mArgs_ex, mArgs_bo, take_nil, take_ex, take_bo, put_nil, put_bo, put_ex, outs, fxOf, ofStr_inj, dAdd_int, dSub_eq, clean, cleans, mIsN_k, mIsNV_k, isN, mPutK_k, mNewK_k, dDictD_1, mFrz_k, orFz_k, fzAt_k, mPar_k, mEnum_k, mZip_k, mLookL_k, mMt_k, itemsS_1, dJoin_1, dStrF_1, dAdd_str, mChn_k, mRev_k, mExtend_k, mPop_k, mClear_k, mLookA_k, mLookR_k, mInV_k, mPairs_nil, mPairs_cons, mDisp_k, dMin2_1, dMax2_1, dAbs_1, dIntF_1, dIntF_2, isDic_d, isDic_v, isDic_t, isDic_k, isDic_l, dKey_i, dKey_s, dKx_i, dKx_s, dKin_i, dKin_s, getD_nil, getD_cons, hasK_nil, hasK_cons, putD_eq, mergeD_nil, mergeD_cons, dInF, dFdiv_eq, dMod_eq, dMul_r, dMul_l, dPow_eq, dShr_eq, dLt_eq, dLe_eq, dGt_eq, dGe_eq, dEq_int, dNe_int, dEq_bl, dNe_bl, dEq_str, dNe_str, atI_z, atI_lit, atI_n, ixN_lit, ixN_n, fz, fzs, fzO, mYes, wipeD, mBrk, mCnt, seqK_1, seqK_2, seqK_3, seqK_4, seqK_5, ifK_1, ifK_2, ifK_3, opK3_1, opK3_2, opK2_1, opK2_2, opK_1, opK_2, lookK3_1, lookK3_2, lookK2_1, lookK2_2, lookK1_1, lookK1_2, lookK_1, lookK_2, varK_1, varK_2, moveK_1, moveK_2, tstK_1, tstK_2, andK_1, andK_2, andK_3, orK_1, orK_2, orK_3, notK_1, notK_2, andVK_1, andVK_2, andVK_3, orVK_1, orVK_2, orVK_3, notVK_1, notVK_2, negK_1, negK_2, asgK_1, asgK_2, retK_1, retK_2, dropK_1, dropK_2, consK2_1, consK2_2, consK_1, consK_2, fnK_1, fnK_2, setIxK3_1, setIxK3_2, setIxK2_1, setIxK2_2, setIxK1_1, setIxK1_2, setIxK0_1, setIxK0_2, setIxK_1, setIxK_2, augK2_1, augK2_2, augK_1, augK_2, appendK1_1, appendK1_2, appendK0_1, appendK0_2, appendK_1, appendK_2, asgTK2_1, asgTK2_2, asgTK_1, asgTK_2, itK2_1, itK2_2, itK_1, itK_2, rngK_1, rngK_2, forK_1, forK_2, turnK_1, turnK_2, turnK_3, turnK_4, turnK_5, turnK0_1, turnK0_2, lcK1_1, lcK1_2, lcK_1, lcK_2, lcT2_1, lcT2_2, lcT1_1, lcT1_2, lcT1_3, lcT0_1, lcT0_2, callK2_1, callK2_2, callK1_1, callK1_2, callK_1, callK_2, argK2_1, argK2_2, argK_1, argK_2, argB_1, argB_2, takeK_1, takeK_2, takeB_1, takeB_2, fnMK_1, fnMK_2, fnMK_3, isNK_1, isNK_2, isNVK_1, isNVK_2, chnK3_1, chnK3_2, chnK2_1, chnK2_2, chnK_1, chnK_2, revK_1, revK_2, extendK1_1, extendK1_2, extendK0_1, extendK0_2, extendK0_3, extendK_1, extendK_2, popK2_1, popK2_2, popK_1, popK_2, clearK_1, clearK_2, lookAK_1, lookAK_2, lookRK2_1, lookRK2_2, lookRK_1, lookRK_2, inVK_1, inVK_2, pairsK4_1, pairsK4_2, pairsK3_1, pairsK3_2, pairsK2_1, pairsK2_2, pairsK_1, pairsK_2, dispK2_1, dispK2_2, dispK_1, dispK_2, mergeK__1, mergeK__2, parK2_1, parK2_2, parK_1, parK_2, enumK_1, enumK_2, zipK_1, zipK_2, lookLK_1, lookLK_2, mtK2_1, mtK2_2, mtK_1, mtK_2, orFzK_1, orFzK_2, fzAtK_1, fzAtK_2, frzK_1, frzK_2, putKK5_1, putKK5_2, putKK4_1, putKK4_2, putKK3_1, putKK3_2, putKK2_1, putKK2_2, putKK1_1, putKK1_2, putKK_1, putKK_2, dIx_l, dIx_t, dIx_k, gNl_1, csK_1, gCs_1, gTu_1, itemsL_1, itemsT_1, mRng_1, mRng_2, dTup_1, dLst_1, setSlot_1, setK_1, gNm_1, dLen_l, dLen_t, dTuple_l, dTuple_t, dList_l, dList_t, oNo_1, oYes_k, oK_1, mSl_k, slK_1, slK1_1, slK2_1, dCut_l, dCut_t, F__law_shares, m__law_shares, encT, intsD]
    · intro x hx
      have := val_big g hg (.num v) hf
      rw [List.mem_singleton.mp hx]; exact this
  | box j =>
    intro n hn _ hf
    have hj := hget j
    refine ⟨[g j], ?_, by simp [val], ?_, by simp [lv]⟩
    · cases n with
      | zero => omega
      | succ n => rcases ho with rfl | rfl <;> simp [fnM_k, mSeq_k, mIf_k, mIfE_k, mOp_k, mLook_k, mVar_k, mMove_k, mTst_k, mAnd_k, mOr_k, mNot_k, mAndV_k, mOrV_k, mNotV_k, mNeg_k, mAsg_k, mRet_k, mRetN, mDrop_k, mSkip, mC, mK, mCons_k, mNil, mFn_k, mSetIx_k, mAug_k, mAppend_k, mAsgT_k, mIt_k, mRngA_k, mFor_k, mLc_k, mCall_k, mArgs_nil, mArgs_ex, mArgs_bo, take_nil, take_ex, take_bo, put_nil, put_bo, put_ex, outs, fxOf, ofStr_inj, dAdd_int, dSub_eq, clean, cleans, mIsN_k, mIsNV_k, isN, mPutK_k, mNewK_k, dDictD_1, mFrz_k, orFz_k, fzAt_k, mPar_k, mEnum_k, mZip_k, mLookL_k, mMt_k, itemsS_1, dJoin_1, dStrF_1, dAdd_str, mChn_k, mRev_k, mExtend_k, mPop_k, mClear_k, mLookA_k, mLookR_k, mInV_k, mPairs_nil, mPairs_cons, mDisp_k, dMin2_1, dMax2_1, dAbs_1, dIntF_1, dIntF_2, isDic_d, isDic_v, isDic_t, isDic_k, isDic_l, dKey_i, dKey_s, dKx_i, dKx_s, dKin_i, dKin_s, getD_nil, getD_cons, hasK_nil, hasK_cons, putD_eq, mergeD_nil, mergeD_cons, dInF, dFdiv_eq, dMod_eq, dMul_r, dMul_l, dPow_eq, dShr_eq, dLt_eq, dLe_eq, dGt_eq, dGe_eq, dEq_int, dNe_int, dEq_bl, dNe_bl, dEq_str, dNe_str, atI_z, atI_lit, atI_n, ixN_lit, ixN_n, fz, fzs, fzO, mYes, wipeD, mBrk, mCnt, seqK_1, seqK_2, seqK_3, seqK_4, seqK_5, ifK_1, ifK_2, ifK_3, opK3_1, opK3_2, opK2_1, opK2_2, opK_1, opK_2, lookK3_1, lookK3_2, lookK2_1, lookK2_2, lookK1_1, lookK1_2, lookK_1, lookK_2, varK_1, varK_2, moveK_1, moveK_2, tstK_1, tstK_2, andK_1, andK_2, andK_3, orK_1, orK_2, orK_3, notK_1, notK_2, andVK_1, andVK_2, andVK_3, orVK_1, orVK_2, orVK_3, notVK_1, notVK_2, negK_1, negK_2, asgK_1, asgK_2, retK_1, retK_2, dropK_1, dropK_2, consK2_1, consK2_2, consK_1, consK_2, fnK_1, fnK_2, setIxK3_1, setIxK3_2, setIxK2_1, setIxK2_2, setIxK1_1, setIxK1_2, setIxK0_1, setIxK0_2, setIxK_1, setIxK_2, augK2_1, augK2_2, augK_1, augK_2, appendK1_1, appendK1_2, appendK0_1, appendK0_2, appendK_1, appendK_2, asgTK2_1, asgTK2_2, asgTK_1, asgTK_2, itK2_1, itK2_2, itK_1, itK_2, rngK_1, rngK_2, forK_1, forK_2, turnK_1, turnK_2, turnK_3, turnK_4, turnK_5, turnK0_1, turnK0_2, lcK1_1, lcK1_2, lcK_1, lcK_2, lcT2_1, lcT2_2, lcT1_1, lcT1_2, lcT1_3, lcT0_1, lcT0_2, callK2_1, callK2_2, callK1_1, callK1_2, callK_1, callK_2, argK2_1, argK2_2, argK_1, argK_2, argB_1, argB_2, takeK_1, takeK_2, takeB_1, takeB_2, fnMK_1, fnMK_2, fnMK_3, isNK_1, isNK_2, isNVK_1, isNVK_2, chnK3_1, chnK3_2, chnK2_1, chnK2_2, chnK_1, chnK_2, revK_1, revK_2, extendK1_1, extendK1_2, extendK0_1, extendK0_2, extendK0_3, extendK_1, extendK_2, popK2_1, popK2_2, popK_1, popK_2, clearK_1, clearK_2, lookAK_1, lookAK_2, lookRK2_1, lookRK2_2, lookRK_1, lookRK_2, inVK_1, inVK_2, pairsK4_1, pairsK4_2, pairsK3_1, pairsK3_2, pairsK2_1, pairsK2_2, pairsK_1, pairsK_2, dispK2_1, dispK2_2, dispK_1, dispK_2, mergeK__1, mergeK__2, parK2_1, parK2_2, parK_1, parK_2, enumK_1, enumK_2, zipK_1, zipK_2, lookLK_1, lookLK_2, mtK2_1, mtK2_2, mtK_1, mtK_2, orFzK_1, orFzK_2, fzAtK_1, fzAtK_2, frzK_1, frzK_2, putKK5_1, putKK5_2, putKK4_1, putKK4_2, putKK3_1, putKK3_2, putKK2_1, putKK2_2, putKK1_1, putKK1_2, putKK_1, putKK_2, dIx_l, dIx_t, dIx_k, gNl_1, csK_1, gCs_1, gTu_1, itemsL_1, itemsT_1, mRng_1, mRng_2, dTup_1, dLst_1, setSlot_1, setK_1, gNm_1, dLen_l, dLen_t, dTuple_l, dTuple_t, dList_l, dList_t, oNo_1, oYes_k, oK_1, mSl_k, slK_1, slK1_1, slK2_1, dCut_l, dCut_t, F__law_shares, m__law_shares, encT, intsD, hj, hce]
    · intro x hx
      have := val_big g hg (.box j) hf
      rw [List.mem_singleton.mp hx]; exact this
  | op c l r ihl ihr =>
    intro n hn h5 hf
    simp only [dep] at hn h5
    cases n with
    | zero => omega
    | succ n =>
      obtain ⟨X1, e1, s1, b1, l1⟩ := ihl n (by omega) (by omega) hf.1
      obtain ⟨X2, e2, s2, b2, l2⟩ := ihr n (by omega) (by omega) hf.2
      have hl : lv l ≤ 4 := by
        have := lv_dep l
        have h3 : 2 ^ dep l ≤ 2 ^ 2 := Nat.pow_le_pow_right (by omega) (by omega)
        omega
      have hr : lv r ≤ 4 := by
        have := lv_dep r
        have h3 : 2 ^ dep r ≤ 2 ^ 2 := Nat.pow_le_pow_right (by omega) (by omega)
        omega
      have p1 : 2 ^ lv l ≤ 2 ^ 4 := Nat.pow_le_pow_right (by omega) hl
      have p2 : 2 ^ lv r ≤ 2 ^ 4 := Nat.pow_le_pow_right (by omega) hr
      have q1 : X1.length ≤ 16 := by omega
      have q2 : X2.length ≤ 16 := by omega
      have pa := lv_pos l
      have pb := lv_pos r
      have hadd : 2 ^ lv l + 2 ^ lv r ≤ 2 ^ (lv l + lv r) := by
        rw [Nat.pow_add]
        have h2 : 2 ≤ 2 ^ lv l := by
          have : 2 ^ 1 ≤ 2 ^ lv l := Nat.pow_le_pow_right (by omega) (by omega)
          omega
        have h3 : 2 ≤ 2 ^ lv r := by
          have : 2 ^ 1 ≤ 2 ^ lv r := Nat.pow_le_pow_right (by omega) (by omega)
          omega
        generalize 2 ^ lv l = A at *
        generalize 2 ^ lv r = B at *
        obtain ⟨A', rfl⟩ : ∃ x, A = x + 2 := ⟨A - 2, by omega⟩
        obtain ⟨B', rfl⟩ : ∃ x, B = x + 2 := ⟨B - 2, by omega⟩
        have : (A' + 2) * (B' + 2) = A' * B' + 2 * A' + 2 * B' + 4 := by rw [Nat.add_mul, Nat.mul_add, Nat.mul_add]; omega
        omega
      have mono1 : 2 ^ (50 * lv l) ≤ 2 ^ (50 * (lv l + lv r)) := Nat.pow_le_pow_right (by omega) (by omega)
      have mono2 : 2 ^ (50 * lv r) ≤ 2 ^ (50 * (lv l + lv r)) := Nat.pow_le_pow_right (by omega) (by omega)
      have ct1 := clean_T l
      have ct2 := clean_T r
      have hc1 := cleans_ints X1
      have hf1 : fzs (intsD X1) = intsD X1 := fzs_ints
      have hc2 := cleans_ints X2
      have hf2 : fzs (intsD X2) = intsD X2 := fzs_ints
      match c with
      | 0 =>
        refine ⟨X1 ++ X2, ?_, by rw [List.sum_append, s1, s2]; rfl, ?_, by rw [List.length_append]; simp only [lv]; omega⟩
        · have had : dAdd (.lst .fro (intsD X1)) (.lst .fro (intsD X2)) = some (.lst .own (intsD (X1 ++ X2))) := by
            rw [dAdd_lst (.inr rfl) (.inr rfl) (by simp [intsD_len]; omega), intsD_app]
          generalize intsD X1 = Y1 at *
          generalize intsD X2 = Y2 at *
          rcases ho with rfl | rfl <;> simp [fnM_k, mSeq_k, mIf_k, mIfE_k, mOp_k, mLook_k, mVar_k, mMove_k, mTst_k, mAnd_k, mOr_k, mNot_k, mAndV_k, mOrV_k, mNotV_k, mNeg_k, mAsg_k, mRet_k, mRetN, mDrop_k, mSkip, mC, mK, mCons_k, mNil, mFn_k, mSetIx_k, mAug_k, mAppend_k, mAsgT_k, mIt_k, mRngA_k, mFor_k, mLc_k, mCall_k, mArgs_nil, mArgs_ex, mArgs_bo, take_nil, take_ex, take_bo, put_nil, put_bo, put_ex, outs, fxOf, ofStr_inj, dAdd_int, dSub_eq, clean, cleans, mIsN_k, mIsNV_k, isN, mPutK_k, mNewK_k, dDictD_1, mFrz_k, orFz_k, fzAt_k, mPar_k, mEnum_k, mZip_k, mLookL_k, mMt_k, itemsS_1, dJoin_1, dStrF_1, dAdd_str, mChn_k, mRev_k, mExtend_k, mPop_k, mClear_k, mLookA_k, mLookR_k, mInV_k, mPairs_nil, mPairs_cons, mDisp_k, dMin2_1, dMax2_1, dAbs_1, dIntF_1, dIntF_2, isDic_d, isDic_v, isDic_t, isDic_k, isDic_l, dKey_i, dKey_s, dKx_i, dKx_s, dKin_i, dKin_s, getD_nil, getD_cons, hasK_nil, hasK_cons, putD_eq, mergeD_nil, mergeD_cons, dInF, dFdiv_eq, dMod_eq, dMul_r, dMul_l, dPow_eq, dShr_eq, dLt_eq, dLe_eq, dGt_eq, dGe_eq, dEq_int, dNe_int, dEq_bl, dNe_bl, dEq_str, dNe_str, atI_z, atI_lit, atI_n, ixN_lit, ixN_n, fz, fzs, fzO, mYes, wipeD, mBrk, mCnt, seqK_1, seqK_2, seqK_3, seqK_4, seqK_5, ifK_1, ifK_2, ifK_3, opK3_1, opK3_2, opK2_1, opK2_2, opK_1, opK_2, lookK3_1, lookK3_2, lookK2_1, lookK2_2, lookK1_1, lookK1_2, lookK_1, lookK_2, varK_1, varK_2, moveK_1, moveK_2, tstK_1, tstK_2, andK_1, andK_2, andK_3, orK_1, orK_2, orK_3, notK_1, notK_2, andVK_1, andVK_2, andVK_3, orVK_1, orVK_2, orVK_3, notVK_1, notVK_2, negK_1, negK_2, asgK_1, asgK_2, retK_1, retK_2, dropK_1, dropK_2, consK2_1, consK2_2, consK_1, consK_2, fnK_1, fnK_2, setIxK3_1, setIxK3_2, setIxK2_1, setIxK2_2, setIxK1_1, setIxK1_2, setIxK0_1, setIxK0_2, setIxK_1, setIxK_2, augK2_1, augK2_2, augK_1, augK_2, appendK1_1, appendK1_2, appendK0_1, appendK0_2, appendK_1, appendK_2, asgTK2_1, asgTK2_2, asgTK_1, asgTK_2, itK2_1, itK2_2, itK_1, itK_2, rngK_1, rngK_2, forK_1, forK_2, turnK_1, turnK_2, turnK_3, turnK_4, turnK_5, turnK0_1, turnK0_2, lcK1_1, lcK1_2, lcK_1, lcK_2, lcT2_1, lcT2_2, lcT1_1, lcT1_2, lcT1_3, lcT0_1, lcT0_2, callK2_1, callK2_2, callK1_1, callK1_2, callK_1, callK_2, argK2_1, argK2_2, argK_1, argK_2, argB_1, argB_2, takeK_1, takeK_2, takeB_1, takeB_2, fnMK_1, fnMK_2, fnMK_3, isNK_1, isNK_2, isNVK_1, isNVK_2, chnK3_1, chnK3_2, chnK2_1, chnK2_2, chnK_1, chnK_2, revK_1, revK_2, extendK1_1, extendK1_2, extendK0_1, extendK0_2, extendK0_3, extendK_1, extendK_2, popK2_1, popK2_2, popK_1, popK_2, clearK_1, clearK_2, lookAK_1, lookAK_2, lookRK2_1, lookRK2_2, lookRK_1, lookRK_2, inVK_1, inVK_2, pairsK4_1, pairsK4_2, pairsK3_1, pairsK3_2, pairsK2_1, pairsK2_2, pairsK_1, pairsK_2, dispK2_1, dispK2_2, dispK_1, dispK_2, mergeK__1, mergeK__2, parK2_1, parK2_2, parK_1, parK_2, enumK_1, enumK_2, zipK_1, zipK_2, lookLK_1, lookLK_2, mtK2_1, mtK2_2, mtK_1, mtK_2, orFzK_1, orFzK_2, fzAtK_1, fzAtK_2, frzK_1, frzK_2, putKK5_1, putKK5_2, putKK4_1, putKK4_2, putKK3_1, putKK3_2, putKK2_1, putKK2_2, putKK1_1, putKK1_2, putKK_1, putKK_2, dIx_l, dIx_t, dIx_k, gNl_1, csK_1, gCs_1, gTu_1, itemsL_1, itemsT_1, mRng_1, mRng_2, dTup_1, dLst_1, setSlot_1, setK_1, gNm_1, dLen_l, dLen_t, dTuple_l, dTuple_t, dList_l, dList_t, oNo_1, oYes_k, oK_1, mSl_k, slK_1, slK1_1, slK2_1, dCut_l, dCut_t, F__law_shares, m__law_shares, encT, opJ, e1, e2, ct1, ct2, hce, hc1, hf1, hc2, hf2, ↓had]
        · intro x hx
          simp only [lv]
          rcases List.mem_append.mp hx with h | h
          · exact Nat.le_trans (b1 x h) mono1
          · exact Nat.le_trans (b2 x h) mono2
      | 1 =>
        refine ⟨X1 ++ X2.map fun y => 0 - y, ?_, by rw [List.sum_append, sum_neg, s1, s2]; simp only [val]; omega, ?_, by rw [List.length_append, List.length_map]; simp only [lv]; omega⟩
        · have had : dAdd (.lst .fro (intsD X1)) (.lst .own (intsD (X2.map fun y => 0 - y))) = some (.lst .own (intsD (X1 ++ X2.map fun y => 0 - y))) := by
            rw [dAdd_lst (.inr rfl) (.inl rfl) (by simp [intsD_len]; omega), intsD_app]
          have hll : (intsD X2).length ≤ 1000000 := by rw [intsD_len]; omega
          have hng := fun x0 x1 x2 x3 x4 o6 => neg_loop x0 x1 x2 x3 x4 o6 X2
          generalize intsD (X2.map fun y => 0 - y) = Y3 at *
          generalize intsD X1 = Y1 at *
          generalize intsD X2 = Y2 at *
          rcases ho with rfl | rfl <;> simp [fnM_k, mSeq_k, mIf_k, mIfE_k, mOp_k, mLook_k, mVar_k, mMove_k, mTst_k, mAnd_k, mOr_k, mNot_k, mAndV_k, mOrV_k, mNotV_k, mNeg_k, mAsg_k, mRet_k, mRetN, mDrop_k, mSkip, mC, mK, mCons_k, mNil, mFn_k, mSetIx_k, mAug_k, mAppend_k, mAsgT_k, mIt_k, mRngA_k, mFor_k, mLc_k, mCall_k, mArgs_nil, mArgs_ex, mArgs_bo, take_nil, take_ex, take_bo, put_nil, put_bo, put_ex, outs, fxOf, ofStr_inj, dAdd_int, dSub_eq, clean, cleans, mIsN_k, mIsNV_k, isN, mPutK_k, mNewK_k, dDictD_1, mFrz_k, orFz_k, fzAt_k, mPar_k, mEnum_k, mZip_k, mLookL_k, mMt_k, itemsS_1, dJoin_1, dStrF_1, dAdd_str, mChn_k, mRev_k, mExtend_k, mPop_k, mClear_k, mLookA_k, mLookR_k, mInV_k, mPairs_nil, mPairs_cons, mDisp_k, dMin2_1, dMax2_1, dAbs_1, dIntF_1, dIntF_2, isDic_d, isDic_v, isDic_t, isDic_k, isDic_l, dKey_i, dKey_s, dKx_i, dKx_s, dKin_i, dKin_s, getD_nil, getD_cons, hasK_nil, hasK_cons, putD_eq, mergeD_nil, mergeD_cons, dInF, dFdiv_eq, dMod_eq, dMul_r, dMul_l, dPow_eq, dShr_eq, dLt_eq, dLe_eq, dGt_eq, dGe_eq, dEq_int, dNe_int, dEq_bl, dNe_bl, dEq_str, dNe_str, atI_z, atI_lit, atI_n, ixN_lit, ixN_n, fz, fzs, fzO, mYes, wipeD, mBrk, mCnt, seqK_1, seqK_2, seqK_3, seqK_4, seqK_5, ifK_1, ifK_2, ifK_3, opK3_1, opK3_2, opK2_1, opK2_2, opK_1, opK_2, lookK3_1, lookK3_2, lookK2_1, lookK2_2, lookK1_1, lookK1_2, lookK_1, lookK_2, varK_1, varK_2, moveK_1, moveK_2, tstK_1, tstK_2, andK_1, andK_2, andK_3, orK_1, orK_2, orK_3, notK_1, notK_2, andVK_1, andVK_2, andVK_3, orVK_1, orVK_2, orVK_3, notVK_1, notVK_2, negK_1, negK_2, asgK_1, asgK_2, retK_1, retK_2, dropK_1, dropK_2, consK2_1, consK2_2, consK_1, consK_2, fnK_1, fnK_2, setIxK3_1, setIxK3_2, setIxK2_1, setIxK2_2, setIxK1_1, setIxK1_2, setIxK0_1, setIxK0_2, setIxK_1, setIxK_2, augK2_1, augK2_2, augK_1, augK_2, appendK1_1, appendK1_2, appendK0_1, appendK0_2, appendK_1, appendK_2, asgTK2_1, asgTK2_2, asgTK_1, asgTK_2, itK2_1, itK2_2, itK_1, itK_2, rngK_1, rngK_2, forK_1, forK_2, turnK_1, turnK_2, turnK_3, turnK_4, turnK_5, turnK0_1, turnK0_2, lcK1_1, lcK1_2, lcK_1, lcK_2, lcT2_1, lcT2_2, lcT1_1, lcT1_2, lcT1_3, lcT0_1, lcT0_2, callK2_1, callK2_2, callK1_1, callK1_2, callK_1, callK_2, argK2_1, argK2_2, argK_1, argK_2, argB_1, argB_2, takeK_1, takeK_2, takeB_1, takeB_2, fnMK_1, fnMK_2, fnMK_3, isNK_1, isNK_2, isNVK_1, isNVK_2, chnK3_1, chnK3_2, chnK2_1, chnK2_2, chnK_1, chnK_2, revK_1, revK_2, extendK1_1, extendK1_2, extendK0_1, extendK0_2, extendK0_3, extendK_1, extendK_2, popK2_1, popK2_2, popK_1, popK_2, clearK_1, clearK_2, lookAK_1, lookAK_2, lookRK2_1, lookRK2_2, lookRK_1, lookRK_2, inVK_1, inVK_2, pairsK4_1, pairsK4_2, pairsK3_1, pairsK3_2, pairsK2_1, pairsK2_2, pairsK_1, pairsK_2, dispK2_1, dispK2_2, dispK_1, dispK_2, mergeK__1, mergeK__2, parK2_1, parK2_2, parK_1, parK_2, enumK_1, enumK_2, zipK_1, zipK_2, lookLK_1, lookLK_2, mtK2_1, mtK2_2, mtK_1, mtK_2, orFzK_1, orFzK_2, fzAtK_1, fzAtK_2, frzK_1, frzK_2, putKK5_1, putKK5_2, putKK4_1, putKK4_2, putKK3_1, putKK3_2, putKK2_1, putKK2_2, putKK1_1, putKK1_2, putKK_1, putKK_2, dIx_l, dIx_t, dIx_k, gNl_1, csK_1, gCs_1, gTu_1, itemsL_1, itemsT_1, mRng_1, mRng_2, dTup_1, dLst_1, setSlot_1, setK_1, gNm_1, dLen_l, dLen_t, dTuple_l, dTuple_t, dList_l, dList_t, oNo_1, oYes_k, oK_1, mSl_k, slK_1, slK1_1, slK2_1, dCut_l, dCut_t, F__law_shares, m__law_shares, encT, opJ, e1, e2, ct1, ct2, hce, hc1, hf1, hc2, hf2, hll, hng, ↓had]
        · intro x hx
          simp only [lv]
          rcases List.mem_append.mp hx with h | h
          · exact Nat.le_trans (b1 x h) mono1
          · obtain ⟨y, hy, rfl⟩ := List.mem_map.mp h
            have := b2 y hy
            omega
      | 2 =>
        refine ⟨X1.flatMap fun x => X2.map fun y => x * y, ?_, by rw [sum_flat, s1, s2]; rfl, ?_, by
          rw [len_flat]; simp only [lv]; rw [Nat.pow_add]; exact Nat.mul_le_mul l1 l2⟩
        · have hfor := fun x0 x1 x2 => mul_for (lv l) (lv r) (by omega) (by omega) X2 b2 (by omega) x0 x1 x2 X1 [] .own none (.inl rfl) b1 (by
            have : X1.length * X2.length ≤ 16 * 16 := Nat.mul_le_mul q1 q2
            simp; omega)
          obtain ⟨o3', o5', h3', ef⟩ := hfor (some (encT (.op 2 l r))) (some (.dic o ks es)) (some (.lst .fro (intsD X1)))
          simp only [List.nil_append, encT, opJ] at ef
          have hn0 : intsD [] = [] := rfl
          rw [hn0] at ef
          have hcF := cleans_ints (X1.flatMap fun x => X2.map fun y => x * y)
          generalize intsD (X1.flatMap fun x => X2.map fun y => x * y) = Y3 at *
          generalize intsD X1 = Y1 at *
          generalize intsD X2 = Y2 at *
          rcases ho with rfl | rfl <;> simp [fnM_k, mSeq_k, mIf_k, mIfE_k, mOp_k, mLook_k, mVar_k, mMove_k, mTst_k, mAnd_k, mOr_k, mNot_k, mAndV_k, mOrV_k, mNotV_k, mNeg_k, mAsg_k, mRet_k, mRetN, mDrop_k, mSkip, mC, mK, mCons_k, mNil, mFn_k, mSetIx_k, mAug_k, mAppend_k, mAsgT_k, mIt_k, mRngA_k, mFor_k, mLc_k, mCall_k, mArgs_nil, mArgs_ex, mArgs_bo, take_nil, take_ex, take_bo, put_nil, put_bo, put_ex, outs, fxOf, ofStr_inj, dAdd_int, dSub_eq, clean, cleans, mIsN_k, mIsNV_k, isN, mPutK_k, mNewK_k, dDictD_1, mFrz_k, orFz_k, fzAt_k, mPar_k, mEnum_k, mZip_k, mLookL_k, mMt_k, itemsS_1, dJoin_1, dStrF_1, dAdd_str, mChn_k, mRev_k, mExtend_k, mPop_k, mClear_k, mLookA_k, mLookR_k, mInV_k, mPairs_nil, mPairs_cons, mDisp_k, dMin2_1, dMax2_1, dAbs_1, dIntF_1, dIntF_2, isDic_d, isDic_v, isDic_t, isDic_k, isDic_l, dKey_i, dKey_s, dKx_i, dKx_s, dKin_i, dKin_s, getD_nil, getD_cons, hasK_nil, hasK_cons, putD_eq, mergeD_nil, mergeD_cons, dInF, dFdiv_eq, dMod_eq, dMul_r, dMul_l, dPow_eq, dShr_eq, dLt_eq, dLe_eq, dGt_eq, dGe_eq, dEq_int, dNe_int, dEq_bl, dNe_bl, dEq_str, dNe_str, atI_z, atI_lit, atI_n, ixN_lit, ixN_n, fz, fzs, fzO, mYes, wipeD, mBrk, mCnt, seqK_1, seqK_2, seqK_3, seqK_4, seqK_5, ifK_1, ifK_2, ifK_3, opK3_1, opK3_2, opK2_1, opK2_2, opK_1, opK_2, lookK3_1, lookK3_2, lookK2_1, lookK2_2, lookK1_1, lookK1_2, lookK_1, lookK_2, varK_1, varK_2, moveK_1, moveK_2, tstK_1, tstK_2, andK_1, andK_2, andK_3, orK_1, orK_2, orK_3, notK_1, notK_2, andVK_1, andVK_2, andVK_3, orVK_1, orVK_2, orVK_3, notVK_1, notVK_2, negK_1, negK_2, asgK_1, asgK_2, retK_1, retK_2, dropK_1, dropK_2, consK2_1, consK2_2, consK_1, consK_2, fnK_1, fnK_2, setIxK3_1, setIxK3_2, setIxK2_1, setIxK2_2, setIxK1_1, setIxK1_2, setIxK0_1, setIxK0_2, setIxK_1, setIxK_2, augK2_1, augK2_2, augK_1, augK_2, appendK1_1, appendK1_2, appendK0_1, appendK0_2, appendK_1, appendK_2, asgTK2_1, asgTK2_2, asgTK_1, asgTK_2, itK2_1, itK2_2, itK_1, itK_2, rngK_1, rngK_2, forK_1, forK_2, turnK_1, turnK_2, turnK_3, turnK_4, turnK_5, turnK0_1, turnK0_2, lcK1_1, lcK1_2, lcK_1, lcK_2, lcT2_1, lcT2_2, lcT1_1, lcT1_2, lcT1_3, lcT0_1, lcT0_2, callK2_1, callK2_2, callK1_1, callK1_2, callK_1, callK_2, argK2_1, argK2_2, argK_1, argK_2, argB_1, argB_2, takeK_1, takeK_2, takeB_1, takeB_2, fnMK_1, fnMK_2, fnMK_3, isNK_1, isNK_2, isNVK_1, isNVK_2, chnK3_1, chnK3_2, chnK2_1, chnK2_2, chnK_1, chnK_2, revK_1, revK_2, extendK1_1, extendK1_2, extendK0_1, extendK0_2, extendK0_3, extendK_1, extendK_2, popK2_1, popK2_2, popK_1, popK_2, clearK_1, clearK_2, lookAK_1, lookAK_2, lookRK2_1, lookRK2_2, lookRK_1, lookRK_2, inVK_1, inVK_2, pairsK4_1, pairsK4_2, pairsK3_1, pairsK3_2, pairsK2_1, pairsK2_2, pairsK_1, pairsK_2, dispK2_1, dispK2_2, dispK_1, dispK_2, mergeK__1, mergeK__2, parK2_1, parK2_2, parK_1, parK_2, enumK_1, enumK_2, zipK_1, zipK_2, lookLK_1, lookLK_2, mtK2_1, mtK2_2, mtK_1, mtK_2, orFzK_1, orFzK_2, fzAtK_1, fzAtK_2, frzK_1, frzK_2, putKK5_1, putKK5_2, putKK4_1, putKK4_2, putKK3_1, putKK3_2, putKK2_1, putKK2_2, putKK1_1, putKK1_2, putKK_1, putKK_2, dIx_l, dIx_t, dIx_k, gNl_1, csK_1, gCs_1, gTu_1, itemsL_1, itemsT_1, mRng_1, mRng_2, dTup_1, dLst_1, setSlot_1, setK_1, gNm_1, dLen_l, dLen_t, dTuple_l, dTuple_t, dList_l, dList_t, oNo_1, oYes_k, oK_1, mSl_k, slK_1, slK1_1, slK2_1, dCut_l, dCut_t, F__law_shares, m__law_shares, encT, opJ, e1, e2, ct1, ct2, hce, hc1, hf1, hc2, hf2, ef]
        · intro x hx
          obtain ⟨a, ha, hx⟩ := List.mem_flatMap.mp hx
          obtain ⟨y, hy, rfl⟩ := List.mem_map.mp hx
          simp only [lv]
          rw [Int.natAbs_mul, Nat.mul_add, Nat.pow_add]
          exact Nat.mul_le_mul (b1 a ha) (b2 y hy)
end My
namespace My
open PySem L2 Z
theorem isi_int {n : Int} : dIsi [tI n, .v (.ty "int")] = some (.v (.bl true)) := by
  simp only [dIsi, tyOf]
  have : kitB "int" "int" = some true := by decide +kernel
  rw [this]; rfl
theorem isi_nbool {n : Int} : dIsi [tI n, .v (.ty "bool")] = some (.v (.bl false)) := by
  simp only [dIsi, tyOf]
  have : kitB "int" "bool" = some false := by decide +kernel
  rw [this]; rfl
theorem like_ok (a b c d e : Int) : dLikeK false (.dic .fro K5 [tI a, tI b, tI c, tI d, tI e]) (.dic .fro K5 [tI a, tI b, tI c, tI d, tI e]) = some (.v (.bl false)) := by
  unfold dLikeK
  simp only
  rw [if_pos]
  refine ⟨trivial, ?_⟩
  simp [likeK, K5, kB, kABC, kA, kZZ, kAB, getD_cons, ofStr_inj, flatB]
theorem body_ok (cell : Int) (x0 o2 o3 o4 o5 : Option D) : ∃ p2 p3 p4 p5 : Option D, (mSeq (mAsg 2 (mCall (F__law_tree 6) [.bo 1, .ex (mC (.int 1)), .ex (mC (.int 3))]))
    (mSeq (mAsg 3 (mCall F__law_values [.bo 1]))
    (mSeq (mAsg 4 (mFn dDictD (mCons (mVar 3) mNil)))
    (mSeq (mAsg 5 (mCall (F_worth 6) [.bo 2, .bo 4]))
    (mSeq (mIf (mOr (mNot (mTst (mFn dIsi (mCons (mVar 5) (mCons (mC (.ty "int")) mNil))))) (mOr (mTst (mFn dIsi (mCons (mVar 5) (mCons (mC (.ty "bool")) mNil)))) (mTst (mOp dNe (mVar 5) (mFn dSum (mCons (mCall (F__law_shares 6) [.bo 2, .bo 3]) mNil)))))) (mRet (mC (.bl false))) mSkip)
    (mIf (mOr (mTst (mOp (dLikeK false) (mVar 4) (mVar 3))) (mTst (mOp dNe (mCall (F_worth 6) [.bo 2, .bo 4]) (mVar 5)))) (mRet (mC (.bl false))) mSkip)))))) [x0, some (tI cell), o2, o3, o4, o5] =
    some (.nx [x0, some (tI cell), p2, p3, p4, p5]) := by
  obtain ⟨t, e1, h1, h2⟩ := tree_ok 3 6 cell 1 3 rfl (by omega) (by omega) (by decide)
  obtain ⟨a, b, c, d, e, e2, ha, hb, hc, hd, he⟩ := values_ok cell
  have hg : ∀ j, big (gv a b c e j) := fun j => match j with
    | 0 => hc
    | 1 => he
    | 2 => hb
    | 3 => ha
  have hget := get_ok a b c d e
  have hce : cleans [tI a, tI b, tI c, tI d, tI e] = true := rfl
  have hfz : fzs [tI a, tI b, tI c, tI d, tI e] = [tI a, tI b, tI c, tI d, tI e] := rfl
  have hlk := like_ok a b c d e
  generalize [tI a, tI b, tI c, tI d, tI e] = ES at *
  generalize K5 = KS at *
  have e3 := worth_ok (gv a b c e) hg .own (.inl rfl) KS ES hget hce t 6 (by omega) (by omega) h2
  have e5 := worth_ok (gv a b c e) hg .fro (.inr rfl) KS ES hget hce t 6 (by omega) (by omega) h2
  obtain ⟨xs, e4, s1, _, _⟩ := shares_ok (gv a b c e) hg KS ES .fro (.inr rfl) hget hce t 6 (by omega) (by omega) h2
  have hsum := dSum_ok xs .own
  rw [s1] at hsum
  have ct := clean_T t
  generalize val (gv a b c e) t = v at *
  generalize encT t = T at *
  generalize intsD xs = XS at *
  refine ⟨some T, some (.dic .fro KS ES), some (.dic .fro KS ES), some (tI v), ?_⟩
  simp [fnM_k, mSeq_k, mIf_k, mIfE_k, mOp_k, mLook_k, mVar_k, mMove_k, mTst_k, mAnd_k, mOr_k, mNot_k, mAndV_k, mOrV_k, mNotV_k, mNeg_k, mAsg_k, mRet_k, mRetN, mDrop_k, mSkip, mC, mK, mCons_k, mNil, mFn_k, mSetIx_k, mAug_k, mAppend_k, mAsgT_k, mIt_k, mRngA_k, mFor_k, mLc_k, mCall_k, mArgs_nil, mArgs_ex, mArgs_bo, take_nil, take_ex, take_bo, put_nil, put_bo, put_ex, outs, fxOf, ofStr_inj, dAdd_int, dSub_eq, clean, cleans, mIsN_k, mIsNV_k, isN, mPutK_k, mNewK_k, dDictD_1, mFrz_k, orFz_k, fzAt_k, mPar_k, mEnum_k, mZip_k, mLookL_k, mMt_k, itemsS_1, dJoin_1, dStrF_1, dAdd_str, mChn_k, mRev_k, mExtend_k, mPop_k, mClear_k, mLookA_k, mLookR_k, mInV_k, mPairs_nil, mPairs_cons, mDisp_k, dMin2_1, dMax2_1, dAbs_1, dIntF_1, dIntF_2, isDic_d, isDic_v, isDic_t, isDic_k, isDic_l, dKey_i, dKey_s, dKx_i, dKx_s, dKin_i, dKin_s, getD_nil, getD_cons, hasK_nil, hasK_cons, putD_eq, mergeD_nil, mergeD_cons, dInF, dFdiv_eq, dMod_eq, dMul_r, dMul_l, dPow_eq, dShr_eq, dLt_eq, dLe_eq, dGt_eq, dGe_eq, dEq_int, dNe_int, dEq_bl, dNe_bl, dEq_str, dNe_str, atI_z, atI_lit, atI_n, ixN_lit, ixN_n, fz, fzs, fzO, mYes, wipeD, mBrk, mCnt, seqK_1, seqK_2, seqK_3, seqK_4, seqK_5, ifK_1, ifK_2, ifK_3, opK3_1, opK3_2, opK2_1, opK2_2, opK_1, opK_2, lookK3_1, lookK3_2, lookK2_1, lookK2_2, lookK1_1, lookK1_2, lookK_1, lookK_2, varK_1, varK_2, moveK_1, moveK_2, tstK_1, tstK_2, andK_1, andK_2, andK_3, orK_1, orK_2, orK_3, notK_1, notK_2, andVK_1, andVK_2, andVK_3, orVK_1, orVK_2, orVK_3, notVK_1, notVK_2, negK_1, negK_2, asgK_1, asgK_2, retK_1, retK_2, dropK_1, dropK_2, consK2_1, consK2_2, consK_1, consK_2, fnK_1, fnK_2, setIxK3_1, setIxK3_2, setIxK2_1, setIxK2_2, setIxK1_1, setIxK1_2, setIxK0_1, setIxK0_2, setIxK_1, setIxK_2, augK2_1, augK2_2, augK_1, augK_2, appendK1_1, appendK1_2, appendK0_1, appendK0_2, appendK_1, appendK_2, asgTK2_1, asgTK2_2, asgTK_1, asgTK_2, itK2_1, itK2_2, itK_1, itK_2, rngK_1, rngK_2, forK_1, forK_2, turnK_1, turnK_2, turnK_3, turnK_4, turnK_5, turnK0_1, turnK0_2, lcK1_1, lcK1_2, lcK_1, lcK_2, lcT2_1, lcT2_2, lcT1_1, lcT1_2, lcT1_3, lcT0_1, lcT0_2, callK2_1, callK2_2, callK1_1, callK1_2, callK_1, callK_2, argK2_1, argK2_2, argK_1, argK_2, argB_1, argB_2, takeK_1, takeK_2, takeB_1, takeB_2, fnMK_1, fnMK_2, fnMK_3, isNK_1, isNK_2, isNVK_1, isNVK_2, chnK3_1, chnK3_2, chnK2_1, chnK2_2, chnK_1, chnK_2, revK_1, revK_2, extendK1_1, extendK1_2, extendK0_1, extendK0_2, extendK0_3, extendK_1, extendK_2, popK2_1, popK2_2, popK_1, popK_2, clearK_1, clearK_2, lookAK_1, lookAK_2, lookRK2_1, lookRK2_2, lookRK_1, lookRK_2, inVK_1, inVK_2, pairsK4_1, pairsK4_2, pairsK3_1, pairsK3_2, pairsK2_1, pairsK2_2, pairsK_1, pairsK_2, dispK2_1, dispK2_2, dispK_1, dispK_2, mergeK__1, mergeK__2, parK2_1, parK2_2, parK_1, parK_2, enumK_1, enumK_2, zipK_1, zipK_2, lookLK_1, lookLK_2, mtK2_1, mtK2_2, mtK_1, mtK_2, orFzK_1, orFzK_2, fzAtK_1, fzAtK_2, frzK_1, frzK_2, putKK5_1, putKK5_2, putKK4_1, putKK4_2, putKK3_1, putKK3_2, putKK2_1, putKK2_2, putKK1_1, putKK1_2, putKK_1, putKK_2, dIx_l, dIx_t, dIx_k, gNl_1, csK_1, gCs_1, gTu_1, itemsL_1, itemsT_1, mRng_1, mRng_2, dTup_1, dLst_1, setSlot_1, setK_1, gNm_1, dLen_l, dLen_t, dTuple_l, dTuple_t, dList_l, dList_t, oNo_1, oYes_k, oK_1, mSl_k, slK_1, slK1_1, slK2_1, dCut_l, dCut_t, e1, e2, hce, hfz, e3, ↓isi_int, ↓isi_nbool, e4, ↓hsum, ct, ↓hlk, e5]
theorem loop_ok : ∀ (ns : List Int) (x0 o1 o2 o3 o4 o5 : Option D), ∃ p1 p2 p3 p4 p5 : Option D, forL (gNm 1) (mSeq (mAsg 2 (mCall (F__law_tree 6) [.bo 1, .ex (mC (.int 1)), .ex (mC (.int 3))]))
    (mSeq (mAsg 3 (mCall F__law_values [.bo 1]))
    (mSeq (mAsg 4 (mFn dDictD (mCons (mVar 3) mNil)))
    (mSeq (mAsg 5 (mCall (F_worth 6) [.bo 2, .bo 4]))
    (mSeq (mIf (mOr (mNot (mTst (mFn dIsi (mCons (mVar 5) (mCons (mC (.ty "int")) mNil))))) (mOr (mTst (mFn dIsi (mCons (mVar 5) (mCons (mC (.ty "bool")) mNil)))) (mTst (mOp dNe (mVar 5) (mFn dSum (mCons (mCall (F__law_shares 6) [.bo 2, .bo 3]) mNil)))))) (mRet (mC (.bl false))) mSkip)
    (mIf (mOr (mTst (mOp (dLikeK false) (mVar 4) (mVar 3))) (mTst (mOp dNe (mCall (F_worth 6) [.bo 2, .bo 4]) (mVar 5)))) (mRet (mC (.bl false))) mSkip)))))) (intsD ns) [x0, o1, o2, o3, o4, o5] = some (.nx [x0, p1, p2, p3, p4, p5]) := by
  intro ns
  induction ns with
  | nil => intro x0 o1 o2 o3 o4 o5; exact ⟨o1, o2, o3, o4, o5, rfl⟩
  | cons n ns ih =>
    intro x0 o1 o2 o3 o4 o5
    obtain ⟨p2, p3, p4, p5, e⟩ := body_ok n x0 o2 o3 o4 o5
    obtain ⟨q1, q2, q3, q4, q5, e2⟩ := ih x0 (some (tI n)) p2 p3 p4 p5
    refine ⟨q1, q2, q3, q4, q5, ?_⟩
    have g : gNm 1 (tI n) [x0, o1, o2, o3, o4, o5] = some [x0, some (tI n), o2, o3, o4, o5] := rfl
    rw [intsD_cons, forL_cons, g, turnK0_1, e, turnK_1, e2]
theorem law_true (ns : List Int) (h : ns.length ≤ 63) : ∃ os, F_law [.lst .ext (intsD ns)] = some (.v (.bl true), os) := by
  obtain ⟨p1, p2, p3, p4, p5, e2⟩ := loop_ok (cutL ns none (some 63)) (some (.lst .ext (intsD ns))) none none none none none
  refine ⟨[some (.lst .ext (intsD ns))], ?_⟩
  have e : cutL (intsD ns) none (some 63) = intsD (cutL ns none (some 63)) := by
    unfold cutL intsD
    simp [List.map_drop, List.map_take]
  have hc := cleans_ints ns
  have hc2 := cleans_ints (cutL ns none (some 63))
  have hf2 : fzs (intsD (cutL ns none (some 63))) = intsD (cutL ns none (some 63)) := fzs_ints
  have hd : dCut (.lst .ext (intsD ns)) none (some 63) = some (.lst .own (intsD (cutL ns none (some 63)))) := by rw [dCut_l hc, e]
  generalize intsD (cutL ns none (some 63)) = C at *
  generalize intsD ns = L at *
  simp [fnM_k, mSeq_k, mIf_k, mIfE_k, mOp_k, mLook_k, mVar_k, mMove_k, mTst_k, mAnd_k, mOr_k, mNot_k, mAndV_k, mOrV_k, mNotV_k, mNeg_k, mAsg_k, mRet_k, mRetN, mDrop_k, mSkip, mC, mK, mCons_k, mNil, mFn_k, mSetIx_k, mAug_k, mAppend_k, mAsgT_k, mIt_k, mRngA_k, mFor_k, mLc_k, mCall_k, mArgs_nil, mArgs_ex, mArgs_bo, take_nil, take_ex, take_bo, put_nil, put_bo, put_ex, outs, fxOf, ofStr_inj, dAdd_int, dSub_eq, clean, cleans, mIsN_k, mIsNV_k, isN, mPutK_k, mNewK_k, dDictD_1, mFrz_k, orFz_k, fzAt_k, mPar_k, mEnum_k, mZip_k, mLookL_k, mMt_k, itemsS_1, dJoin_1, dStrF_1, dAdd_str, mChn_k, mRev_k, mExtend_k, mPop_k, mClear_k, mLookA_k, mLookR_k, mInV_k, mPairs_nil, mPairs_cons, mDisp_k, dMin2_1, dMax2_1, dAbs_1, dIntF_1, dIntF_2, isDic_d, isDic_v, isDic_t, isDic_k, isDic_l, dKey_i, dKey_s, dKx_i, dKx_s, dKin_i, dKin_s, getD_nil, getD_cons, hasK_nil, hasK_cons, putD_eq, mergeD_nil, mergeD_cons, dInF, dFdiv_eq, dMod_eq, dMul_r, dMul_l, dPow_eq, dShr_eq, dLt_eq, dLe_eq, dGt_eq, dGe_eq, dEq_int, dNe_int, dEq_bl, dNe_bl, dEq_str, dNe_str, atI_z, atI_lit, atI_n, ixN_lit, ixN_n, fz, fzs, fzO, mYes, wipeD, mBrk, mCnt, seqK_1, seqK_2, seqK_3, seqK_4, seqK_5, ifK_1, ifK_2, ifK_3, opK3_1, opK3_2, opK2_1, opK2_2, opK_1, opK_2, lookK3_1, lookK3_2, lookK2_1, lookK2_2, lookK1_1, lookK1_2, lookK_1, lookK_2, varK_1, varK_2, moveK_1, moveK_2, tstK_1, tstK_2, andK_1, andK_2, andK_3, orK_1, orK_2, orK_3, notK_1, notK_2, andVK_1, andVK_2, andVK_3, orVK_1, orVK_2, orVK_3, notVK_1, notVK_2, negK_1, negK_2, asgK_1, asgK_2, retK_1, retK_2, dropK_1, dropK_2, consK2_1, consK2_2, consK_1, consK_2, fnK_1, fnK_2, setIxK3_1, setIxK3_2, setIxK2_1, setIxK2_2, setIxK1_1, setIxK1_2, setIxK0_1, setIxK0_2, setIxK_1, setIxK_2, augK2_1, augK2_2, augK_1, augK_2, appendK1_1, appendK1_2, appendK0_1, appendK0_2, appendK_1, appendK_2, asgTK2_1, asgTK2_2, asgTK_1, asgTK_2, itK2_1, itK2_2, itK_1, itK_2, rngK_1, rngK_2, forK_1, forK_2, turnK_1, turnK_2, turnK_3, turnK_4, turnK_5, turnK0_1, turnK0_2, lcK1_1, lcK1_2, lcK_1, lcK_2, lcT2_1, lcT2_2, lcT1_1, lcT1_2, lcT1_3, lcT0_1, lcT0_2, callK2_1, callK2_2, callK1_1, callK1_2, callK_1, callK_2, argK2_1, argK2_2, argK_1, argK_2, argB_1, argB_2, takeK_1, takeK_2, takeB_1, takeB_2, fnMK_1, fnMK_2, fnMK_3, isNK_1, isNK_2, isNVK_1, isNVK_2, chnK3_1, chnK3_2, chnK2_1, chnK2_2, chnK_1, chnK_2, revK_1, revK_2, extendK1_1, extendK1_2, extendK0_1, extendK0_2, extendK0_3, extendK_1, extendK_2, popK2_1, popK2_2, popK_1, popK_2, clearK_1, clearK_2, lookAK_1, lookAK_2, lookRK2_1, lookRK2_2, lookRK_1, lookRK_2, inVK_1, inVK_2, pairsK4_1, pairsK4_2, pairsK3_1, pairsK3_2, pairsK2_1, pairsK2_2, pairsK_1, pairsK_2, dispK2_1, dispK2_2, dispK_1, dispK_2, mergeK__1, mergeK__2, parK2_1, parK2_2, parK_1, parK_2, enumK_1, enumK_2, zipK_1, zipK_2, lookLK_1, lookLK_2, mtK2_1, mtK2_2, mtK_1, mtK_2, orFzK_1, orFzK_2, fzAtK_1, fzAtK_2, frzK_1, frzK_2, putKK5_1, putKK5_2, putKK4_1, putKK4_2, putKK3_1, putKK3_2, putKK2_1, putKK2_2, putKK1_1, putKK1_2, putKK_1, putKK_2, dIx_l, dIx_t, dIx_k, gNl_1, csK_1, gCs_1, gTu_1, itemsL_1, itemsT_1, mRng_1, mRng_2, dTup_1, dLst_1, setSlot_1, setK_1, gNm_1, dLen_l, dLen_t, dTuple_l, dTuple_t, dList_l, dList_t, oNo_1, oYes_k, oK_1, mSl_k, slK_1, slK1_1, slK2_1, dCut_l, dCut_t, F_law, m_law, hc, hd, hc2, hf2, e2]
end My
namespace My
open PySem PySem.Spec PyProof.Rows L2 Z
theorem all_mk {l : PySem.W.OpenLaw} {w : World} {K : PySem.W.Frag} {h : Heap} {mg : Str → Option Value} {fa : Addr} (X : K.In h) (G : h.Ns mainGlobals mg) (hfa : mg "law" = some (.ref fa))
    {f_worth : Addr} {od_worth an_worth : Option Addr} {sl_worth : Array (Option Value)} {oc_worth kV_worth dc_worth pm_worth cd_worth ct_worth : Value}
    (a_worth : PySem.W.nsIn K mainGlobals "worth" = some (some (.ref f_worth))) (l_worth : K.lookup f_worth = some ⟨oc_worth, od_worth, .func (PySem.W.fnOf "worth" "worth" (defArgs s_worth) (defBody s_worth) (defScope s_worth) .none kV_worth dc_worth pm_worth an_worth cd_worth ct_worth), sl_worth⟩) (c_worth : PySem.W.codeIn K cd_worth "worth" = true) (k_worth : PySem.W.keepIn K (.ref f_worth) = true)
    {f__law_stir : Addr} {od__law_stir an__law_stir : Option Addr} {sl__law_stir : Array (Option Value)} {oc__law_stir kV__law_stir dc__law_stir pm__law_stir cd__law_stir ct__law_stir : Value}
    (a__law_stir : PySem.W.nsIn K mainGlobals "_law_stir" = some (some (.ref f__law_stir))) (l__law_stir : K.lookup f__law_stir = some ⟨oc__law_stir, od__law_stir, .func (PySem.W.fnOf "_law_stir" "_law_stir" (defArgs s__law_stir) (defBody s__law_stir) (defScope s__law_stir) .none kV__law_stir dc__law_stir pm__law_stir an__law_stir cd__law_stir ct__law_stir), sl__law_stir⟩) (c__law_stir : PySem.W.codeIn K cd__law_stir "_law_stir" = true) (k__law_stir : PySem.W.keepIn K (.ref f__law_stir) = true)
    {f__law_leaf : Addr} {od__law_leaf an__law_leaf : Option Addr} {sl__law_leaf : Array (Option Value)} {oc__law_leaf kV__law_leaf dc__law_leaf pm__law_leaf cd__law_leaf ct__law_leaf : Value}
    (a__law_leaf : PySem.W.nsIn K mainGlobals "_law_leaf" = some (some (.ref f__law_leaf))) (l__law_leaf : K.lookup f__law_leaf = some ⟨oc__law_leaf, od__law_leaf, .func (PySem.W.fnOf "_law_leaf" "_law_leaf" (defArgs s__law_leaf) (defBody s__law_leaf) (defScope s__law_leaf) .none kV__law_leaf dc__law_leaf pm__law_leaf an__law_leaf cd__law_leaf ct__law_leaf), sl__law_leaf⟩) (c__law_leaf : PySem.W.codeIn K cd__law_leaf "_law_leaf" = true) (k__law_leaf : PySem.W.keepIn K (.ref f__law_leaf) = true)
    {f__law_tree : Addr} {od__law_tree an__law_tree : Option Addr} {sl__law_tree : Array (Option Value)} {oc__law_tree kV__law_tree dc__law_tree pm__law_tree cd__law_tree ct__law_tree : Value}
    (a__law_tree : PySem.W.nsIn K mainGlobals "_law_tree" = some (some (.ref f__law_tree))) (l__law_tree : K.lookup f__law_tree = some ⟨oc__law_tree, od__law_tree, .func (PySem.W.fnOf "_law_tree" "_law_tree" (defArgs s__law_tree) (defBody s__law_tree) (defScope s__law_tree) .none kV__law_tree dc__law_tree pm__law_tree an__law_tree cd__law_tree ct__law_tree), sl__law_tree⟩) (c__law_tree : PySem.W.codeIn K cd__law_tree "_law_tree" = true) (k__law_tree : PySem.W.keepIn K (.ref f__law_tree) = true)
    {f__law_values : Addr} {od__law_values an__law_values : Option Addr} {sl__law_values : Array (Option Value)} {oc__law_values kV__law_values dc__law_values pm__law_values cd__law_values ct__law_values : Value}
    (a__law_values : PySem.W.nsIn K mainGlobals "_law_values" = some (some (.ref f__law_values))) (l__law_values : K.lookup f__law_values = some ⟨oc__law_values, od__law_values, .func (PySem.W.fnOf "_law_values" "_law_values" (defArgs s__law_values) (defBody s__law_values) (defScope s__law_values) .none kV__law_values dc__law_values pm__law_values an__law_values cd__law_values ct__law_values), sl__law_values⟩) (c__law_values : PySem.W.codeIn K cd__law_values "_law_values" = true) (k__law_values : PySem.W.keepIn K (.ref f__law_values) = true)
    {f__law_shares : Addr} {od__law_shares an__law_shares : Option Addr} {sl__law_shares : Array (Option Value)} {oc__law_shares kV__law_shares dc__law_shares pm__law_shares cd__law_shares ct__law_shares : Value}
    (a__law_shares : PySem.W.nsIn K mainGlobals "_law_shares" = some (some (.ref f__law_shares))) (l__law_shares : K.lookup f__law_shares = some ⟨oc__law_shares, od__law_shares, .func (PySem.W.fnOf "_law_shares" "_law_shares" (defArgs s__law_shares) (defBody s__law_shares) (defScope s__law_shares) .none kV__law_shares dc__law_shares pm__law_shares an__law_shares cd__law_shares ct__law_shares), sl__law_shares⟩) (c__law_shares : PySem.W.codeIn K cd__law_shares "_law_shares" = true) (k__law_shares : PySem.W.keepIn K (.ref f__law_shares) = true)
    {f_law : Addr} {od_law an_law : Option Addr} {sl_law : Array (Option Value)} {oc_law kV_law dc_law pm_law cd_law ct_law : Value}
    (a_law : PySem.W.nsIn K mainGlobals "law" = some (some (.ref f_law))) (l_law : K.lookup f_law = some ⟨oc_law, od_law, .func (PySem.W.fnOf "law" "law" (defArgs s_law) (defBody s_law) (defScope s_law) .none kV_law dc_law pm_law an_law cd_law ct_law), sl_law⟩) (c_law : PySem.W.codeIn K cd_law "law" = true) (k_law : PySem.W.keepIn K (.ref f_law) = true)
    (z_bool : PySem.W.nsIn K mainGlobals "bool" = some none)
    (z_dict : PySem.W.nsIn K mainGlobals "dict" = some none)
    (z_int : PySem.W.nsIn K mainGlobals "int" = some none)
    (z_isinstance : PySem.W.nsIn K mainGlobals "isinstance" = some none)
    (z_range : PySem.W.nsIn K mainGlobals "range" = some none)
    (z_sum : PySem.W.nsIn K mainGlobals "sum" = some none)
    : ∃ fd : FuncData, (∀ (s : Shared) (v : Value), BindsTo s fd ⟨[v], []⟩ [("script", v)]) ∧ ∀ base : Heap, K.In base → base.Ns mainGlobals mg → FnOk l.prog w K mg base CX0 9 fa fd ["script"] (Z.spLaw K) := by
  have e := hfa.symm.trans (PySem.W.mg_of X G a_law)
  cases e
  have zz_bool := PySem.W.mg_none_of X G z_bool
  have zz_dict := PySem.W.mg_none_of X G z_dict
  have zz_int := PySem.W.mg_none_of X G z_int
  have zz_isinstance := PySem.W.mg_none_of X G z_isinstance
  have zz_range := PySem.W.mg_none_of X G z_range
  have zz_sum := PySem.W.mg_none_of X G z_sum
  refine ⟨PySem.W.fnOf "law" "law" (defArgs s_law) (defBody s_law) (defScope s_law) .none kV_law dc_law pm_law an_law cd_law ct_law, fun s v => .of_eq rfl, fun base _ _ => ?_⟩
  have F_worth' := fun_mk (st := s_worth) l_worth c_worth k_worth
  have DD_worth : ∀ n, Def l.prog w K mg base (1 + n) "worth" 2 (F_worth n) := by
    intro n
    induction n with
    | zero => exact ⟨_, _, ["e", "values"], PySem.W.mg_of X G a_worth, F_worth'.kp, F_worth'.binds (ps := ["e", "values"]) (fun _ _ _ _ _ _ us hl => match us, hl with | [_, _], _ => rfl), rfl, fn_none rfl⟩
    | succ n ih => exact ⟨_, _, ["e", "values"], PySem.W.mg_of X G a_worth, F_worth'.kp, F_worth'.binds (ps := ["e", "values"]) (fun _ _ _ _ _ _ us hl => match us, hl with | [_, _], _ => rfl), rfl, ok_worth F_worth' ih ⟩
  have D_worth : Def l.prog w K mg base 7 "worth" 2 (F_worth 6) := DD_worth 6
  have F__law_stir' := fun_mk (st := s__law_stir) l__law_stir c__law_stir k__law_stir
  have D__law_stir : Def l.prog w K mg base 1 "_law_stir" 2 F__law_stir := ⟨_, _, ["cell", "k"], PySem.W.mg_of X G a__law_stir, F__law_stir'.kp, F__law_stir'.binds (ps := ["cell", "k"]) (fun _ _ _ _ _ _ us hl => match us, hl with | [_, _], _ => rfl), rfl, ok__law_stir F__law_stir' ⟩
  have F__law_leaf' := fun_mk (st := s__law_leaf) l__law_leaf c__law_leaf k__law_leaf
  have D__law_leaf : Def l.prog w K mg base 1 "_law_leaf" 1 F__law_leaf := ⟨_, _, ["number"], PySem.W.mg_of X G a__law_leaf, F__law_leaf'.kp, F__law_leaf'.binds (ps := ["number"]) (fun _ _ _ _ _ _ us hl => match us, hl with | [_], _ => rfl), rfl, ok__law_leaf F__law_leaf' ⟩
  have F__law_tree' := fun_mk (st := s__law_tree) l__law_tree c__law_tree k__law_tree
  have DD__law_tree : ∀ n, Def l.prog w K mg base (2 + n) "_law_tree" 3 (F__law_tree n) := by
    intro n
    induction n with
    | zero => exact ⟨_, _, ["cell", "k", "deep"], PySem.W.mg_of X G a__law_tree, F__law_tree'.kp, F__law_tree'.binds (ps := ["cell", "k", "deep"]) (fun _ _ _ _ _ _ us hl => match us, hl with | [_, _, _], _ => rfl), rfl, fn_none rfl⟩
    | succ n ih => exact ⟨_, _, ["cell", "k", "deep"], PySem.W.mg_of X G a__law_tree, F__law_tree'.kp, F__law_tree'.binds (ps := ["cell", "k", "deep"]) (fun _ _ _ _ _ _ us hl => match us, hl with | [_, _, _], _ => rfl), rfl, ok__law_tree F__law_tree' ih D__law_leaf D__law_stir⟩
  have D__law_tree : Def l.prog w K mg base 8 "_law_tree" 3 (F__law_tree 6) := DD__law_tree 6
  have F__law_values' := fun_mk (st := s__law_values) l__law_values c__law_values k__law_values
  have D__law_values : Def l.prog w K mg base 2 "_law_values" 1 F__law_values := ⟨_, _, ["cell"], PySem.W.mg_of X G a__law_values, F__law_values'.kp, F__law_values'.binds (ps := ["cell"]) (fun _ _ _ _ _ _ us hl => match us, hl with | [_], _ => rfl), rfl, ok__law_values F__law_values' D__law_stir zz_range⟩
  have F__law_shares' := fun_mk (st := s__law_shares) l__law_shares c__law_shares k__law_shares
  have DD__law_shares : ∀ n, Def l.prog w K mg base (1 + n) "_law_shares" 2 (F__law_shares n) := by
    intro n
    induction n with
    | zero => exact ⟨_, _, ["tree", "values"], PySem.W.mg_of X G a__law_shares, F__law_shares'.kp, F__law_shares'.binds (ps := ["tree", "values"]) (fun _ _ _ _ _ _ us hl => match us, hl with | [_, _], _ => rfl), rfl, fn_none rfl⟩
    | succ n ih => exact ⟨_, _, ["tree", "values"], PySem.W.mg_of X G a__law_shares, F__law_shares'.kp, F__law_shares'.binds (ps := ["tree", "values"]) (fun _ _ _ _ _ _ us hl => match us, hl with | [_, _], _ => rfl), rfl, ok__law_shares F__law_shares' ih ⟩
  have D__law_shares : Def l.prog w K mg base 7 "_law_shares" 2 (F__law_shares 6) := DD__law_shares 6
  have F_law' := fun_mk (st := s_law) l_law c_law k_law
  exact Z.law_fn (ok_law F_law' D__law_shares D__law_tree D__law_values D_worth zz_bool zz_dict zz_int zz_isinstance zz_sum) law_true
end My
open PySem PySem.W PyProof.Rows
set_option maxHeartbeats 0 in
theorem PySem.Challenge.cw_sayswho_k04_worths_holds : PySem.Challenge.rw_sayswho_k04_worths.Holds := by
  w_on; o_law; k_head; (case hw => w_witness2)
  k_fill
  refine L2.walk_of (l := PySem.Challenge.rw_sayswho_k04_worths) (n := 63) (k := 9) (x := "script") (CX := fun _ => L2.CX0) (sp := fun w => Z.spLaw _) rfl (by decide) rfl ⟨rfl, by decide, by decide⟩ (fun w h Y => PySem.W.kIn_of Y) ?F (fun _ _ a ns hl _ hS => ⟨a, ns, rfl, hS, hl, fun _ => rfl⟩) (fun _ _ _ _ _ h => h)
  case F =>
    intro w mg fa h KX G hmg
    refine' My.all_mk KX G hmg ?a_worth ?l_worth ?c_worth ?k_worth ?a__law_stir ?l__law_stir ?c__law_stir ?k__law_stir ?a__law_leaf ?l__law_leaf ?c__law_leaf ?k__law_leaf ?a__law_tree ?l__law_tree ?c__law_tree ?k__law_tree ?a__law_values ?l__law_values ?c__law_values ?k__law_values ?a__law_shares ?l__law_shares ?c__law_shares ?k__law_shares ?a_law ?l_law ?c_law ?k_law ?z_bool ?z_dict ?z_int ?z_isinstance ?z_range ?z_sum
    (case a_worth => k_is); (case l_worth => k_is); (case c_worth => k_is); (case k_worth => k_is); (case a__law_stir => k_is); (case l__law_stir => k_is); (case c__law_stir => k_is); (case k__law_stir => k_is); (case a__law_leaf => k_is); (case l__law_leaf => k_is); (case c__law_leaf => k_is); (case k__law_leaf => k_is); (case a__law_tree => k_is); (case l__law_tree => k_is); (case c__law_tree => k_is); (case k__law_tree => k_is); (case a__law_values => k_is); (case l__law_values => k_is); (case c__law_values => k_is); (case k__law_values => k_is); (case a__law_shares => k_is); (case l__law_shares => k_is); (case c__law_shares => k_is); (case k__law_shares => k_is); (case a_law => k_is); (case l_law => k_is); (case c_law => k_is); (case k_law => k_is); (case z_bool => k_is); (case z_dict => k_is); (case z_int => k_is); (case z_isinstance => k_is); (case z_range => k_is); (case z_sum => k_is)
