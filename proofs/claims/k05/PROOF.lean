import PyProof.Rows.All
import Wide.All
import OpenK.AllK
import Wide.FinOn
import HandS.ForMost
import KE.KDictKeyed
import KE.KeyNested
import HandS.Conv
import HandS.TupAny
import HandS.Wide
import HandS.IsInst
import HandS.Deep
import HandS.Style
import HandS.DictEq
import HandS.Text
import HandS.Dict
import HandS.More
import HandS.DictComp
import PyProof.EqAt
import HandS.NoneIn
import PyProof.DictMoreH
import HandS.TupLe
import HandS.Zip
import KE.GoesMore
import KE.GoesEnum
import HandS.SortOrd
import HandS.SortRule
import HandS.NamedTupSort
import KE.KDictDisplayH
import KE.KDictWalk
import HandS.StrMore
import KE.DataCmp
import HandS.ForExc
import HandS.ExcIs
import HandS.SuiteRaise
import HandS.RaiseFrom
import KE.LtData
import PySem.Challenge.RW_sayswho_k05_whole_words_worth
set_option Elab.async false
set_option linter.all false
set_option maxRecDepth 100000
set_option maxHeartbeats 8000000
namespace L2
open PySem PySem.Spec PyProof.Rows
/-! ### dicts whose keys are tuples of any depth -/
abbrev NX := NestedKey × Addr × Value
def nEnt (w : World) (x : NX) : DictEntry := ⟨x.1.hash w, .ref x.2.1, x.2.2⟩
def NDct (w : World) (a : Addr) (xs : List NX) (ep : Nat) : HO :=
  .ext fun h => (xs.length ≤ sizeLine ∧ (a == sysModules) = false ∧ (xs.map (·.1)).Nodup) ∧ ∃ o es, h.get? a = some o ∧ o.ExactDict ∧ o.data = .dict es ep ∧ es.toList = xs.map (nEnt w)
mutual
inductive NKV (H : Hp) : NestedKey → V → Prop
  | non : NKV H .none .non
  | int (i : Int) : NKV H (.num i) (.int i)
  | str (s : Str) : NKV H (.text s) (.str s)
  | tup {a : Addr} {xs : List V} {ks : List NestedKey} : H a = some (.tup xs) → NKVs H ks xs → NKV H (.tup ks) (.ref a)
inductive NKVs (H : Hp) : List NestedKey → List V → Prop
  | nil : NKVs H [] []
  | cons {k : NestedKey} {v : V} {ks : List NestedKey} {vs : List V} : NKV H k v → NKVs H ks vs → NKVs H (k :: ks) (v :: vs)
end
mutual
theorem NKV.mono {H H' : Hp} (g : ∀ p o, H p = some o → H' p = some o) : ∀ {k : NestedKey} {v : V}, NKV H k v → NKV H' k v
  | _, _, .non => .non
  | _, _, .int i => .int i
  | _, _, .str s => .str s
  | _, _, .tup e t => .tup (g _ _ e) (t.mono g)
theorem NKVs.mono {H H' : Hp} (g : ∀ p o, H p = some o → H' p = some o) : ∀ {k : List NestedKey} {v : List V}, NKVs H k v → NKVs H' k v
  | _, _, .nil => .nil
  | _, _, .cons a b => .cons (a.mono g) (b.mono g)
end
section
variable {X : Cx} {pins : List (Addr × Obj)} {σ : St} {H : Hp} {s : Shared}
mutual
theorem NKV.is (I : Inv X pins σ H s) : ∀ {k : NestedKey} {v : V} {u : Value}, NKV H k v → RelV v u → NestedIs s.heap k u
  | _, _, _, .non, r => by obtain rfl := (show _ = Value.none from r); exact .none
  | _, _, _, .int i, r => by obtain ⟨t, rfl⟩ := (show ∃ t, _ = Value.int i t from r); exact .int i t
  | _, _, _, .str x, r => by obtain ⟨t, rfl⟩ := (show ∃ t, _ = Value.str x t from r); exact .text x t
  | _, _, _, .tup (a := a) e t, r => by
    obtain rfl := (show _ = Value.ref a from r)
    obtain ⟨_, its, vs, o, ho, hc, n, hd⟩ := I.hok _ _ e
    exact .tup ho hc hd (t.is I vs)
theorem NKVs.is (I : Inv X pins σ H s) : ∀ {ks : List NestedKey} {vs : List V} {us : List Value}, NKVs H ks vs → Vals vs us → NestedAll s.heap ks us
  | _, _, _, .nil, r => by cases r; exact .nil
  | _, _, _, .cons a b, r => by
    cases r with
    | cons r1 r2 => exact .cons (a.is I r1) (b.is I r2)
end
end
def NAll (H : Hp) (xs : List NX) : Prop := ∀ x ∈ xs, NKV H x.1 (.ref x.2.1) ∧ x.1.depth ≤ 8
theorem NAll.mono {H H' : Hp} (g : ∀ p o, H p = some o → H' p = some o) {xs : List NX} (h : NAll H xs) : NAll H' xs := fun x hx => ⟨(h x hx).1.mono g, (h x hx).2⟩
section
variable {X : Cx} {pins : List (Addr × Obj)} {σ : St} {H : Hp} {s : Shared} {a b : Addr} {xs : List NX} {ep : Nat} {k : NestedKey} {A : Around} {E : Value → Shared → Prop}
end
def NRel (p : NestedKey × V) (q : NX) : Prop := p.1 = q.1 ∧ RelV p.2 q.2.2
theorem atKey_pos {x : NX} {r : List NX} {k : NestedKey} (e : x.1 = k) : atKey (x :: r) k = some x.2 := by simp [atKey, List.find?_cons, e]
theorem atKey_neg {x : NX} {r : List NX} {k : NestedKey} (e : ¬ x.1 = k) : atKey (x :: r) k = atKey r k := by simp [atKey, List.find?_cons, e]
theorem NRel.at {k : NestedKey} : ∀ {kvs : List (NestedKey × V)} {xs : List NX}, Paired NRel kvs xs → (∀ v, valV kvs k = some v → ∃ b, atKey xs k = some b ∧ RelV v b.2) ∧ (valV kvs k = none → atKey xs k = none)
  | _, _, .nil => ⟨fun v h => (by rw [valV_nil] at h; cases h), fun _ => rfl⟩
  | p :: kvs, x :: xs, .cons r t => by
    obtain ⟨i1, i2⟩ := NRel.at (k := k) t
    by_cases e : p.1 = k
    · have e2 : x.1 = k := r.1 ▸ e
      rw [valV_pos e, atKey_pos e2]
      exact ⟨fun v h => by cases h; exact ⟨_, rfl, r.2⟩, fun h => nomatch h⟩
    · have e2 : ¬ x.1 = k := fun z => e (r.1.trans z)
      rw [valV_neg e, atKey_neg e2]
      exact ⟨i1, i2⟩
theorem NRel.isSome {k : NestedKey} {kvs : List (NestedKey × V)} {xs : List NX} (h : Paired NRel kvs xs) : (atKey xs k).isSome = (valV kvs k).isSome := by
  obtain ⟨i1, i2⟩ := NRel.at (k := k) h
  cases e : valV kvs k with
  | none => rw [i2 e]; rfl
  | some v => obtain ⟨b, eb, _⟩ := i1 v e; rw [eb]; rfl
theorem NRel.rep {k : NestedKey} {v : V} {r : Value} (rv : RelV v r) : ∀ {kvs : List (NestedKey × V)} {xs : List NX}, Paired NRel kvs xs → Paired NRel (kvs.map fun kv => if kv.1 = k then (kv.1, v) else kv) (xs.map (putAt k r))
  | _, _, .nil => .nil
  | p :: kvs, x :: xs, .cons q t => by
    refine .cons ?_ (NRel.rep rv t)
    unfold putAt
    show NRel (if p.1 = k then (p.1, v) else p) _
    by_cases e : p.1 = k
    · have e2 : x.1 = k := q.1 ▸ e
      rw [if_pos e, if_pos e2]; exact ⟨q.1, rv⟩
    · have e2 : ¬ x.1 = k := fun z => e (q.1.trans z)
      rw [if_neg e, if_neg e2]; exact q
theorem NRel.snoc {p : NestedKey × V} {x : NX} (q : NRel p x) : ∀ {kvs : List (NestedKey × V)} {xs : List NX}, Paired NRel kvs xs → Paired NRel (kvs ++ [p]) (xs ++ [x])
  | _, _, .nil => .cons q .nil
  | _, _, .cons r t => .cons r (NRel.snoc q t)
theorem NRel.put {k : NestedKey} {v : V} {r : Value} {b : Addr} (rv : RelV v r) {kvs : List (NestedKey × V)} {xs : List NX} (h : Paired NRel kvs xs) : Paired NRel (putK kvs k v) (storedH xs k b r) := by
  have e := NRel.isSome (k := k) h
  unfold putK storedH
  rw [e, valV_any]
  cases (valV kvs k).isSome with
  | true => exact NRel.rep rv h
  | false => exact NRel.snoc ⟨rfl, rv⟩ h
theorem NAll.put {H : Hp} {xs : List NX} {k : NestedKey} {b : Addr} {r : Value} (ka : NAll H xs) (kb : NKV H k (.ref b)) (hk : k.depth ≤ 8) : NAll H (storedH xs k b r) := by
  unfold storedH
  split
  · intro x hx
    obtain ⟨y, hy, rfl⟩ := List.mem_map.mp hx
    unfold putAt
    split
    · exact ka y hy
    · exact ka y hy
  · intro x hx
    rcases List.mem_append.mp hx with hx | hx
    · exact ka x hx
    · rw [List.mem_singleton.mp hx]; exact ⟨kb, hk⟩
theorem NRel.length : ∀ {kvs : List (NestedKey × V)} {xs : List NX}, Paired NRel kvs xs → kvs.length = xs.length
  | _, _, .nil => rfl
  | _, _, .cons _ t => by simp [NRel.length t]
/-! the rules for expressions and statements -/
section
variable {X : Cx} {o i value : Expr} {td ty tv : TE} {pos pos' : Pos}
end
end L2
namespace Z
open PySem PySem.Spec L2
inductive O where
  | own | fro | ext
  deriving DecidableEq
structure KW where
  k : PySem.W.Frag
  w : World
instance : Coe KW PySem.W.Frag := ⟨KW.k⟩
abbrev _root_.L2.Cx.kw (X : L2.Cx) : KW := ⟨X.K, X.w⟩
inductive D where
  | v (x : V)
  | tup (ds : List D)
  | ktp (ds : List D)
  | lst (o : O) (ds : List D)
  | dic (o : O) (ks : List Key) (ds : List D)
  | dit (o : O) (ks : List (List Key)) (ds : List D)
  | din (o : O) (ks : List NestedKey) (ds : List D)
  | ins (o : O) (c : Str) (fs : List Str) (ds : List D)
  | hol
abbrev DS := List (Option D)
mutual
def clean : D → Bool
  | .v _ => true
  | .tup ds => cleans ds
  | .ktp ds => cleans ds
  | .lst o ds => decide (o ≠ .own) && cleans ds
  | .dic o _ ds => decide (o ≠ .own) && cleans ds
  | .dit o _ ds => decide (o ≠ .own) && cleans ds
  | .din o _ ds => decide (o ≠ .own) && cleans ds
  | .ins o _ _ ds => decide (o ≠ .own) && cleans ds
  | .hol => false
def cleans : List D → Bool
  | [] => true
  | d :: ds => clean d && cleans ds
end
def fzO : O → O
  | .own => .fro
  | o => o
mutual
def fz : D → D
  | .v x => .v x
  | .tup ds => .tup (fzs ds)
  | .ktp ds => .ktp (fzs ds)
  | .lst o ds => .lst (fzO o) (fzs ds)
  | .dic o ks ds => .dic (fzO o) ks (fzs ds)
  | .dit o ks ds => .dit (fzO o) ks (fzs ds)
  | .din o ks ds => .din (fzO o) ks (fzs ds)
  | .ins o c fs ds => .ins (fzO o) c fs (fzs ds)
  | .hol => .hol
def fzs : List D → List D
  | [] => []
  | d :: ds => fz d :: fzs ds
end
section
variable (K : KW) (mg : Str → Option Value) (G H : Hp)
/-- the values are the data; what is owned stands at the addresses, each once -/
inductive Owns : List V → List D → List Addr → Prop
  | nil : Owns [] [] []
  | v {x : V} {vs : List V} {ds : List D} {f : List Addr} : Owns vs ds f → Owns (x :: vs) (.v x :: ds) f
  | hl {a : Addr} {vs : List V} {ds : List D} {f : List Addr} : Owns vs ds f → Owns (.ref a :: vs) (.hol :: ds) f
  | tup {a : Addr} {xs vs : List V} {es ds : List D} {f1 f2 : List Addr} : G a = some (.tup xs) → Owns xs es f1 → Owns vs ds f2 → Owns (.ref a :: vs) (.tup es :: ds) (f1 ++ f2)
  | kt {a : Addr} {xs vs : List V} {es ds : List D} {f1 f2 : List Addr} : SqT K G a xs → Owns xs es f1 → Owns vs ds f2 → Owns (.ref a :: vs) (.ktp es :: ds) (f1 ++ f2)
  | el {a : Addr} {xs vs : List V} {es ds : List D} {f1 f2 : List Addr} : SqL K G a xs → Owns xs es f1 → Owns vs ds f2 → Owns (.ref a :: vs) (.lst .ext es :: ds) (f1 ++ f2)
  | fl {a : Addr} {xs vs : List V} {es ds : List D} {f1 f2 : List Addr} : G a = some (.lst xs) → Owns xs es f1 → Owns vs ds f2 → Owns (.ref a :: vs) (.lst .fro es :: ds) (f1 ++ f2)
  | ol {a : Addr} {xs vs : List V} {es ds : List D} {f1 f2 : List Addr} : H a = some (.lst xs) → G a = none → Owns xs es f1 → Owns vs ds f2 → Owns (.ref a :: vs) (.lst .own es :: ds) (a :: (f1 ++ f2))
  | fd {a : Addr} {kvs : List (Key × V)} {ks : List Key} {vs : List V} {es ds : List D} {f1 f2 : List Addr} : G a = some (.dK kvs) → kvs.map (·.1) = ks → Owns (kvs.map (·.2)) es f1 → Owns vs ds f2 → Owns (.ref a :: vs) (.dic .fro ks es :: ds) (f1 ++ f2)
  | xd {a : Addr} {o : Obj} {kvs : List (Key × V)} {ks : List Key} {vs : List V} {es ds : List D} {f1 f2 : List Addr} : G a = some (.frz o (.dK kvs)) → kvs.map (·.1) = ks → Owns (kvs.map (·.2)) es f1 → Owns vs ds f2 → Owns (.ref a :: vs) (.dic .ext ks es :: ds) (f1 ++ f2)
  | od {a : Addr} {kvs : List (Key × V)} {ks : List Key} {vs : List V} {es ds : List D} {f1 f2 : List Addr} : H a = some (.dK kvs) → G a = none → kvs.map (·.1) = ks → Owns (kvs.map (·.2)) es f1 → Owns vs ds f2 → Owns (.ref a :: vs) (.dic .own ks es :: ds) (a :: (f1 ++ f2))
  | ft {a : Addr} {kvs : List (List Key × V)} {ks : List (List Key)} {vs : List V} {es ds : List D} {f1 f2 : List Addr} : G a = some (.dT kvs) → kvs.map (·.1) = ks → Owns (kvs.map (·.2)) es f1 → Owns vs ds f2 → Owns (.ref a :: vs) (.dit .fro ks es :: ds) (f1 ++ f2)
  | ot {a : Addr} {kvs : List (List Key × V)} {ks : List (List Key)} {vs : List V} {es ds : List D} {f1 f2 : List Addr} : H a = some (.dT kvs) → G a = none → kvs.map (·.1) = ks → Owns (kvs.map (·.2)) es f1 → Owns vs ds f2 → Owns (.ref a :: vs) (.dit .own ks es :: ds) (a :: (f1 ++ f2))
  | fn {a : Addr} {ep : Nat} {xs : List NX} {kvs : List (NestedKey × V)} {ks : List NestedKey} {vs : List V} {es ds : List D} {f1 f2 : List Addr} : G a = some (NDct K.w a xs ep) → (NAll G xs ∧ Paired NRel kvs xs ∧ kvs.map (·.1) = ks) → Owns (kvs.map (·.2)) es f1 → Owns vs ds f2 → Owns (.ref a :: vs) (.din .fro ks es :: ds) (f1 ++ f2)
  | on {a : Addr} {ep : Nat} {xs : List NX} {kvs : List (NestedKey × V)} {ks : List NestedKey} {vs : List V} {es ds : List D} {f1 f2 : List Addr} : H a = some (NDct K.w a xs ep) → G a = none → (NAll G xs ∧ Paired NRel kvs xs ∧ kvs.map (·.1) = ks) → Owns (kvs.map (·.2)) es f1 → Owns vs ds f2 → Owns (.ref a :: vs) (.din .own ks es :: ds) (a :: (f1 ++ f2))
  | fi {a C dx : Addr} {fs : List (Str × V)} {c : Str} {ns : List Str} {vs : List V} {es ds : List D} {f1 f2 : List Addr} : G a = some (.ins C dx fs) → mg c = some (.ref C) → fs.map (·.1) = ns → Owns (fs.map (·.2)) es f1 → Owns vs ds f2 → Owns (.ref a :: vs) (.ins .fro c ns es :: ds) (f1 ++ f2)
  | oi {a C dx : Addr} {fs : List (Str × V)} {c : Str} {ns : List Str} {vs : List V} {es ds : List D} {f1 f2 : List Addr} : H a = some (.ins C dx fs) → G a = none → mg c = some (.ref C) → fs.map (·.1) = ns → Owns (fs.map (·.2)) es f1 → Owns vs ds f2 → Owns (.ref a :: vs) (.ins .own c ns es :: ds) (a :: (f1 ++ f2))
inductive OwnS : St → DS → List Addr → Prop
  | nil : OwnS [] [] []
  | no {o : Option V} {σ : St} {ds : DS} {f : List Addr} : OwnS σ ds f → OwnS (o :: σ) (none :: ds) f
  | yes {v : V} {d : D} {σ : St} {ds : DS} {f1 f2 : List Addr} : Owns K mg G H [v] [d] f1 → OwnS σ ds f2 → OwnS (some v :: σ) (some d :: ds) (f1 ++ f2)
end
section
variable {K : KW} {mg : Str → Option Value} {G H G' H' : Hp} {vs ws : List V} {ds es : List D} {f f1 f2 : List Addr} {σ : St}
theorem sqT_mono {a : Addr} {xs : List V} (g : Same G G') (h : SqT K G a xs) : SqT K G' a xs := by
  rcases h with (h | ⟨o, h⟩) | h
  · exact .inl (.inl (g _ _ h))
  · exact .inl (.inr ⟨o, g _ _ h⟩)
  · exact .inr h
theorem sqL_mono {a : Addr} {xs : List V} (g : Same G G') (h : SqL K G a xs) : SqL K G' a xs := g.seq h
theorem Owns.frame (h : Owns K mg G H vs ds f) (g : Same G G') (k : ∀ a ∈ f, (∀ o, H a = some o → H' a = some o) ∧ G' a = none) : Owns K mg G' H' vs ds f := by
  induction h with
  | nil => exact .nil
  | v _ ih => exact .v (ih k)
  | hl _ ih => exact .hl (ih k)
  | tup e _ _ i1 i2 => exact .tup (g _ _ e) (i1 fun a h => k a (List.mem_append_left _ h)) (i2 fun a h => k a (List.mem_append_right _ h))
  | kt e _ _ i1 i2 => exact .kt (sqT_mono g e) (i1 fun a h => k a (List.mem_append_left _ h)) (i2 fun a h => k a (List.mem_append_right _ h))
  | el e _ _ i1 i2 => exact .el (sqL_mono g e) (i1 fun a h => k a (List.mem_append_left _ h)) (i2 fun a h => k a (List.mem_append_right _ h))
  | fl e _ _ i1 i2 => exact .fl (g _ _ e) (i1 fun a h => k a (List.mem_append_left _ h)) (i2 fun a h => k a (List.mem_append_right _ h))
  | ol e n _ _ i1 i2 => exact .ol ((k _ List.mem_cons_self).1 _ e) (k _ List.mem_cons_self).2 (i1 fun a h => k a (List.mem_cons_of_mem _ (List.mem_append_left _ h))) (i2 fun a h => k a (List.mem_cons_of_mem _ (List.mem_append_right _ h)))
  | fd e e2 _ _ i1 i2 => exact .fd (g _ _ e) e2 (i1 fun a h => k a (List.mem_append_left _ h)) (i2 fun a h => k a (List.mem_append_right _ h))
  | xd e e2 _ _ i1 i2 => exact .xd (g _ _ e) e2 (i1 fun a h => k a (List.mem_append_left _ h)) (i2 fun a h => k a (List.mem_append_right _ h))
  | od e n e2 _ _ i1 i2 => exact .od ((k _ List.mem_cons_self).1 _ e) (k _ List.mem_cons_self).2 e2 (i1 fun a h => k a (List.mem_cons_of_mem _ (List.mem_append_left _ h))) (i2 fun a h => k a (List.mem_cons_of_mem _ (List.mem_append_right _ h)))
  | ft e e2 _ _ i1 i2 => exact .ft (g _ _ e) e2 (i1 fun a h => k a (List.mem_append_left _ h)) (i2 fun a h => k a (List.mem_append_right _ h))
  | ot e n e2 _ _ i1 i2 => exact .ot ((k _ List.mem_cons_self).1 _ e) (k _ List.mem_cons_self).2 e2 (i1 fun a h => k a (List.mem_cons_of_mem _ (List.mem_append_left _ h))) (i2 fun a h => k a (List.mem_cons_of_mem _ (List.mem_append_right _ h)))
  | fn e e2 _ _ i1 i2 => exact .fn (g _ _ e) ⟨e2.1.mono g, e2.2⟩ (i1 fun a h => k a (List.mem_append_left _ h)) (i2 fun a h => k a (List.mem_append_right _ h))
  | on e n e2 _ _ i1 i2 => exact .on ((k _ List.mem_cons_self).1 _ e) (k _ List.mem_cons_self).2 ⟨e2.1.mono g, e2.2⟩ (i1 fun a h => k a (List.mem_cons_of_mem _ (List.mem_append_left _ h))) (i2 fun a h => k a (List.mem_cons_of_mem _ (List.mem_append_right _ h)))
  | fi e e2 e3 _ _ i1 i2 => exact .fi (g _ _ e) e2 e3 (i1 fun a h => k a (List.mem_append_left _ h)) (i2 fun a h => k a (List.mem_append_right _ h))
  | oi e n e2 e3 _ _ i1 i2 => exact .oi ((k _ List.mem_cons_self).1 _ e) (k _ List.mem_cons_self).2 e2 e3 (i1 fun a h => k a (List.mem_cons_of_mem _ (List.mem_append_left _ h))) (i2 fun a h => k a (List.mem_cons_of_mem _ (List.mem_append_right _ h)))
theorem here_cons {P : Addr → Prop} {a : Addr} {f1 f2 : List Addr} (h : P a) (h1 : ∀ b ∈ f1, P b) (h2 : ∀ b ∈ f2, P b) : ∀ b ∈ a :: (f1 ++ f2), P b := by
  intro b hb
  rcases List.mem_cons.mp hb with rfl | hb
  · exact h
  · exact (List.mem_append.mp hb).elim (h1 b) (h2 b)
/-- what is owned is there, and not known -/
theorem Owns.here (h : Owns K mg G H vs ds f) : ∀ a ∈ f, (∃ o, H a = some o) ∧ G a = none := by
  induction h with
  | nil => intro a h; cases h
  | v _ ih => exact ih
  | hl _ ih => exact ih
  | tup _ _ _ i1 i2 => intro a h; exact (List.mem_append.mp h).elim (i1 a) (i2 a)
  | kt _ _ _ i1 i2 => intro a h; exact (List.mem_append.mp h).elim (i1 a) (i2 a)
  | el _ _ _ i1 i2 => intro a h; exact (List.mem_append.mp h).elim (i1 a) (i2 a)
  | fl _ _ _ i1 i2 => intro a h; exact (List.mem_append.mp h).elim (i1 a) (i2 a)
  | ol e n _ _ i1 i2 => exact here_cons ⟨⟨_, e⟩, n⟩ i1 i2
  | fd _ _ _ _ i1 i2 => intro a h; exact (List.mem_append.mp h).elim (i1 a) (i2 a)
  | xd _ _ _ _ i1 i2 => intro a h; exact (List.mem_append.mp h).elim (i1 a) (i2 a)
  | od e n _ _ _ i1 i2 => exact here_cons ⟨⟨_, e⟩, n⟩ i1 i2
  | ft _ _ _ _ i1 i2 => intro a h; exact (List.mem_append.mp h).elim (i1 a) (i2 a)
  | ot e n _ _ _ i1 i2 => exact here_cons ⟨⟨_, e⟩, n⟩ i1 i2
  | fn _ _ _ _ i1 i2 => intro a h; exact (List.mem_append.mp h).elim (i1 a) (i2 a)
  | on e n _ _ _ i1 i2 => exact here_cons ⟨⟨_, e⟩, n⟩ i1 i2
  | fi _ _ _ _ _ i1 i2 => intro a h; exact (List.mem_append.mp h).elim (i1 a) (i2 a)
  | oi e n _ _ _ _ i1 i2 => exact here_cons ⟨⟨_, e⟩, n⟩ i1 i2
theorem Owns.clean (h : Owns K mg G H vs ds f) (c : cleans ds = true) : f = [] := by
  induction h with
  | nil => rfl
  | v _ ih => simp only [cleans, Z.clean, Bool.and_eq_true] at c; exact ih c.2
  | hl _ ih => simp [cleans, Z.clean] at c
  | tup _ _ _ i1 i2 => simp only [cleans, Z.clean, Bool.and_eq_true] at c; rw [i1 c.1, i2 c.2]; rfl
  | kt _ _ _ i1 i2 => simp only [cleans, Z.clean, Bool.and_eq_true] at c; rw [i1 c.1, i2 c.2]; rfl
  | el _ _ _ i1 i2 => simp only [cleans, Z.clean, Bool.and_eq_true] at c; rw [i1 c.1.2, i2 c.2]; rfl
  | fl _ _ _ i1 i2 => simp only [cleans, Z.clean, Bool.and_eq_true] at c; rw [i1 c.1.2, i2 c.2]; rfl
  | ol _ _ _ _ i1 i2 => simp [cleans, Z.clean] at c
  | fd _ _ _ _ i1 i2 => simp only [cleans, Z.clean, Bool.and_eq_true] at c; rw [i1 c.1.2, i2 c.2]; rfl
  | xd _ _ _ _ i1 i2 => simp only [cleans, Z.clean, Bool.and_eq_true] at c; rw [i1 c.1.2, i2 c.2]; rfl
  | od _ _ _ _ _ i1 i2 => simp [cleans, Z.clean] at c
  | ft _ _ _ _ i1 i2 => simp only [cleans, Z.clean, Bool.and_eq_true] at c; rw [i1 c.1.2, i2 c.2]; rfl
  | ot _ _ _ _ _ i1 i2 => simp [cleans, Z.clean] at c
  | fn _ _ _ _ i1 i2 => simp only [cleans, Z.clean, Bool.and_eq_true] at c; rw [i1 c.1.2, i2 c.2]; rfl
  | on _ _ _ _ _ i1 i2 => simp [cleans, Z.clean] at c
  | fi _ _ _ _ _ i1 i2 => simp only [cleans, Z.clean, Bool.and_eq_true] at c; rw [i1 c.1.2, i2 c.2]; rfl
  | oi _ _ _ _ _ _ i1 i2 => simp [cleans, Z.clean] at c
/-- frozen: what was owned is known now -/
theorem Owns.freeze (h : Owns K mg G H vs ds f) (c : cleans (fzs ds) = true) (g : Same G G') (k : ∀ a ∈ f, ∀ o, H a = some o → G' a = some o) : Owns K mg G' H' vs (fzs ds) [] := by
  induction h with
  | nil => exact .nil
  | v _ ih => simp only [fzs, fz, cleans, Z.clean, Bool.and_eq_true] at c; simp only [fzs, fz]; exact .v (ih c.2 k)
  | hl _ ih => simp [fzs, fz, cleans, Z.clean] at c
  | tup e _ _ i1 i2 =>
    simp only [fzs, fz, cleans, Z.clean, Bool.and_eq_true] at c
    exact .tup (f1 := []) (f2 := []) (g _ _ e) (i1 c.1 fun a h => k a (List.mem_append_left _ h)) (i2 c.2 fun a h => k a (List.mem_append_right _ h))
  | kt e _ _ i1 i2 =>
    simp only [fzs, fz, cleans, Z.clean, Bool.and_eq_true] at c
    exact .kt (f1 := []) (f2 := []) (sqT_mono g e) (i1 c.1 fun a h => k a (List.mem_append_left _ h)) (i2 c.2 fun a h => k a (List.mem_append_right _ h))
  | el e _ _ i1 i2 =>
    simp only [fzs, fz, cleans, Z.clean, Bool.and_eq_true] at c
    exact .el (f1 := []) (f2 := []) (sqL_mono g e) (i1 c.1.2 fun a h => k a (List.mem_append_left _ h)) (i2 c.2 fun a h => k a (List.mem_append_right _ h))
  | fl e _ _ i1 i2 =>
    simp only [fzs, fz, cleans, Z.clean, Bool.and_eq_true] at c
    exact .fl (f1 := []) (f2 := []) (g _ _ e) (i1 c.1.2 fun a h => k a (List.mem_append_left _ h)) (i2 c.2 fun a h => k a (List.mem_append_right _ h))
  | ol e n _ _ i1 i2 =>
    simp only [fzs, fz, cleans, Z.clean, Bool.and_eq_true] at c
    exact .fl (f1 := []) (f2 := []) (k _ List.mem_cons_self _ e) (i1 c.1.2 fun a h => k a (List.mem_cons_of_mem _ (List.mem_append_left _ h))) (i2 c.2 fun a h => k a (List.mem_cons_of_mem _ (List.mem_append_right _ h)))
  | fd e e2 _ _ i1 i2 =>
    simp only [fzs, fz, cleans, Z.clean, Bool.and_eq_true] at c
    exact .fd (f1 := []) (f2 := []) (g _ _ e) e2 (i1 c.1.2 fun a h => k a (List.mem_append_left _ h)) (i2 c.2 fun a h => k a (List.mem_append_right _ h))
  | xd e e2 _ _ i1 i2 =>
    simp only [fzs, fz, cleans, Z.clean, Bool.and_eq_true] at c
    exact .xd (f1 := []) (f2 := []) (g _ _ e) e2 (i1 c.1.2 fun a h => k a (List.mem_append_left _ h)) (i2 c.2 fun a h => k a (List.mem_append_right _ h))
  | od e n e2 _ _ i1 i2 =>
    simp only [fzs, fz, cleans, Z.clean, Bool.and_eq_true] at c
    exact .fd (f1 := []) (f2 := []) (k _ List.mem_cons_self _ e) e2 (i1 c.1.2 fun a h => k a (List.mem_cons_of_mem _ (List.mem_append_left _ h))) (i2 c.2 fun a h => k a (List.mem_cons_of_mem _ (List.mem_append_right _ h)))
  | ft e e2 _ _ i1 i2 =>
    simp only [fzs, fz, cleans, Z.clean, Bool.and_eq_true] at c
    exact .ft (f1 := []) (f2 := []) (g _ _ e) e2 (i1 c.1.2 fun a h => k a (List.mem_append_left _ h)) (i2 c.2 fun a h => k a (List.mem_append_right _ h))
  | ot e n e2 _ _ i1 i2 =>
    simp only [fzs, fz, cleans, Z.clean, Bool.and_eq_true] at c
    exact .ft (f1 := []) (f2 := []) (k _ List.mem_cons_self _ e) e2 (i1 c.1.2 fun a h => k a (List.mem_cons_of_mem _ (List.mem_append_left _ h))) (i2 c.2 fun a h => k a (List.mem_cons_of_mem _ (List.mem_append_right _ h)))
  | fn e e2 _ _ i1 i2 =>
    simp only [fzs, fz, cleans, Z.clean, Bool.and_eq_true] at c
    exact .fn (f1 := []) (f2 := []) (g _ _ e) ⟨e2.1.mono g, e2.2⟩ (i1 c.1.2 fun a h => k a (List.mem_append_left _ h)) (i2 c.2 fun a h => k a (List.mem_append_right _ h))
  | on e n e2 _ _ i1 i2 =>
    simp only [fzs, fz, cleans, Z.clean, Bool.and_eq_true] at c
    exact .fn (f1 := []) (f2 := []) (k _ List.mem_cons_self _ e) ⟨e2.1.mono g, e2.2⟩ (i1 c.1.2 fun a h => k a (List.mem_cons_of_mem _ (List.mem_append_left _ h))) (i2 c.2 fun a h => k a (List.mem_cons_of_mem _ (List.mem_append_right _ h)))
  | fi e e2 e3 _ _ i1 i2 =>
    simp only [fzs, fz, cleans, Z.clean, Bool.and_eq_true] at c
    exact .fi (f1 := []) (f2 := []) (g _ _ e) e2 e3 (i1 c.1.2 fun a h => k a (List.mem_append_left _ h)) (i2 c.2 fun a h => k a (List.mem_append_right _ h))
  | oi e n e2 e3 _ _ i1 i2 =>
    simp only [fzs, fz, cleans, Z.clean, Bool.and_eq_true] at c
    exact .fi (f1 := []) (f2 := []) (k _ List.mem_cons_self _ e) e2 e3 (i1 c.1.2 fun a h => k a (List.mem_cons_of_mem _ (List.mem_append_left _ h))) (i2 c.2 fun a h => k a (List.mem_cons_of_mem _ (List.mem_append_right _ h)))
theorem Owns.append (h : Owns K mg G H vs ds f1) (h2 : Owns K mg G H ws es f2) : Owns K mg G H (vs ++ ws) (ds ++ es) (f1 ++ f2) := by
  induction h with
  | nil => exact h2
  | v _ ih => exact .v ih
  | hl _ ih => exact .hl ih
  | tup e a _ _ i2 => rw [List.append_assoc]; exact .tup e a i2
  | kt e a _ _ i2 => rw [List.append_assoc]; exact .kt e a i2
  | el e a _ _ i2 => rw [List.append_assoc]; exact .el e a i2
  | fl e a _ _ i2 => rw [List.append_assoc]; exact .fl e a i2
  | ol e n a _ _ i2 => simpa [List.append_assoc] using Owns.ol e n a i2
  | fd e e2 a _ _ i2 => rw [List.append_assoc]; exact .fd e e2 a i2
  | xd e e2 a _ _ i2 => rw [List.append_assoc]; exact .xd e e2 a i2
  | od e n e2 a _ _ i2 => simpa [List.append_assoc] using Owns.od e n e2 a i2
  | ft e e2 a _ _ i2 => rw [List.append_assoc]; exact .ft e e2 a i2
  | ot e n e2 a _ _ i2 => simpa [List.append_assoc] using Owns.ot e n e2 a i2
  | fn e e2 a _ _ i2 => rw [List.append_assoc]; exact .fn e e2 a i2
  | on e n e2 a _ _ i2 => simpa [List.append_assoc] using Owns.on e n e2 a i2
  | fi e e2 e3 a _ _ i2 => rw [List.append_assoc]; exact .fi e e2 e3 a i2
  | oi e n e2 e3 a _ _ i2 => simpa [List.append_assoc] using Owns.oi e n e2 e3 a i2
theorem Owns.length (h : Owns K mg G H vs ds f) : vs.length = ds.length := by
  induction h with
  | nil => rfl
  | _ => simp_all
/-- the first of several -/
theorem Owns.cons_inv {v : V} {d : D} (h : Owns K mg G H (v :: vs) (d :: ds) f) : ∃ f1 f2, f = f1 ++ f2 ∧ Owns K mg G H [v] [d] f1 ∧ Owns K mg G H vs ds f2 := by
  cases h with
  | v h => exact ⟨[], _, rfl, .v .nil, h⟩
  | hl h => exact ⟨[], _, rfl, .hl .nil, h⟩
  | tup e a b => exact ⟨_, _, rfl, by simpa using Owns.tup e a .nil, b⟩
  | kt e a b => exact ⟨_, _, rfl, by simpa using Owns.kt e a .nil, b⟩
  | el e a b => exact ⟨_, _, rfl, by simpa using Owns.el e a .nil, b⟩
  | fl e a b => exact ⟨_, _, rfl, by simpa using Owns.fl e a .nil, b⟩
  | ol e n a b => exact ⟨_ :: _, _, rfl, by simpa using Owns.ol e n a .nil, b⟩
  | fd e e2 a b => exact ⟨_, _, rfl, by simpa using Owns.fd e e2 a .nil, b⟩
  | xd e e2 a b => exact ⟨_, _, rfl, by simpa using Owns.xd e e2 a .nil, b⟩
  | od e n e2 a b => exact ⟨_ :: _, _, rfl, by simpa using Owns.od e n e2 a .nil, b⟩
  | ft e e2 a b => exact ⟨_, _, rfl, by simpa using Owns.ft e e2 a .nil, b⟩
  | ot e n e2 a b => exact ⟨_ :: _, _, rfl, by simpa using Owns.ot e n e2 a .nil, b⟩
  | fn e e2 a b => exact ⟨_, _, rfl, by simpa using Owns.fn e e2 a .nil, b⟩
  | on e n e2 a b => exact ⟨_ :: _, _, rfl, by simpa using Owns.on e n e2 a .nil, b⟩
  | fi e e2 e3 a b => exact ⟨_, _, rfl, by simpa using Owns.fi e e2 e3 a .nil, b⟩
  | oi e n e2 e3 a b => exact ⟨_ :: _, _, rfl, by simpa using Owns.oi e n e2 e3 a .nil, b⟩
theorem Owns.cons {v : V} {d : D} (h1 : Owns K mg G H [v] [d] f1) (h2 : Owns K mg G H vs ds f2) : Owns K mg G H (v :: vs) (d :: ds) (f1 ++ f2) := h1.append h2
end
end Z
namespace Z
open PySem PySem.Spec L2
section
variable {K : KW} {mg : Str → Option Value} {G H G' H' : Hp} {vs ws : List V} {es : List D} {f f1 f2 : List Addr} {σ : L2.St} {ds : DS}
theorem OwnS.frame (h : OwnS K mg G H σ ds f) (g : Same G G') (k : ∀ a ∈ f, (∀ o, H a = some o → H' a = some o) ∧ G' a = none) : OwnS K mg G' H' σ ds f := by
  induction h with
  | nil => exact .nil
  | no _ ih => exact .no (ih k)
  | yes e _ ih => exact .yes (e.frame g fun a h => k a (List.mem_append_left _ h)) (ih fun a h => k a (List.mem_append_right _ h))
theorem OwnS.here (h : OwnS K mg G H σ ds f) : ∀ a ∈ f, (∃ o, H a = some o) ∧ G a = none := by
  induction h with
  | nil => intro a h; cases h
  | no _ ih => exact ih
  | yes e _ ih => intro a h; exact (List.mem_append.mp h).elim (e.here a) (ih a)
theorem OwnS.length (h : OwnS K mg G H σ ds f) : σ.length = ds.length := by
  induction h with
  | nil => rfl
  | _ => simp_all
/-- slot i: what it holds, and any other datum of the same value put there -/
theorem OwnS.split (h : OwnS K mg G H σ ds f) {i : Nat} {d : D} (hi : ds[i]? = some (some d)) : ∃ v fa fb fc, f = fa ++ fb ++ fc ∧ σ[i]? = some (some v) ∧ Owns K mg G H [v] [d] fb ∧
    ∀ G' H', Same G G' → (∀ a, a ∈ fa ∨ a ∈ fc → (∀ o, H a = some o → H' a = some o) ∧ G' a = none) → OwnS K mg G' H' σ (ds.set i none) (fa ++ fc) ∧ ∀ d' f', Owns K mg G' H' [v] [d'] f' → OwnS K mg G' H' σ (ds.set i (some d')) (fa ++ f' ++ fc) := by
  induction h generalizing i with
  | nil => simp at hi
  | @no o σ ds f h0 ih =>
    cases i with
    | zero => simp at hi
    | succ i =>
      obtain ⟨v, fa, fb, fc, e, hv, hO, k⟩ := ih (by simpa using hi)
      refine ⟨v, fa, fb, fc, e, by simpa using hv, hO, fun G' H' g q => ?_⟩
      obtain ⟨k1, k2⟩ := k G' H' g q
      exact ⟨.no k1, fun d' f' h' => .no (k2 d' f' h')⟩
  | @yes v0 d0 σ ds g1 g2 e0 h0 ih =>
    cases i with
    | zero =>
      have : d0 = d := by simpa using hi
      subst this
      refine ⟨v0, [], g1, g2, rfl, rfl, e0, fun G' H' g q => ?_⟩
      have h1 : OwnS K mg G' H' σ ds g2 := h0.frame g fun a ha => q a (.inr ha)
      exact ⟨.no h1, fun d' f' h' => .yes h' h1⟩
    | succ i =>
      obtain ⟨v, fa, fb, fc, e, hv, hO, k⟩ := ih (by simpa using hi)
      refine ⟨v, g1 ++ fa, fb, fc, by rw [e]; simp [List.append_assoc], by simpa using hv, hO, fun G' H' g q => ?_⟩
      obtain ⟨k1, k2⟩ := k G' H' g fun a ha => q a (ha.imp (List.mem_append_right _) id)
      have e1 : Owns K mg G' H' [v0] [d0] g1 := e0.frame g fun a ha => q a (.inl (List.mem_append_left _ ha))
      refine ⟨?_, fun d' f' h' => ?_⟩
      · have := OwnS.yes e1 k1
        simpa [List.append_assoc] using this
      · have := OwnS.yes e1 (k2 d' f' h')
        simpa [List.append_assoc] using this
/-- slot i is bound anew -/
theorem OwnS.bind (h : OwnS K mg G H σ ds f) {i : Nat} (hi : i < ds.length) : ∃ fa fb fc, f = fa ++ fb ++ fc ∧ ∀ v d f', Owns K mg G H [v] [d] f' → OwnS K mg G H (σ.set i (some v)) (ds.set i (some d)) (fa ++ f' ++ fc) := by
  induction h generalizing i with
  | nil => simp at hi
  | @no o σ ds f h0 ih =>
    cases i with
    | zero => exact ⟨[], [], f, rfl, fun v d f' h' => .yes h' h0⟩
    | succ i =>
      obtain ⟨fa, fb, fc, e, k⟩ := ih (i := i) (by simpa using hi)
      exact ⟨fa, fb, fc, e, fun v d f' h' => .no (k v d f' h')⟩
  | @yes v0 d0 σ ds g1 g2 e0 h0 ih =>
    cases i with
    | zero => exact ⟨[], g1, g2, rfl, fun v d f' h' => .yes h' h0⟩
    | succ i =>
      obtain ⟨fa, fb, fc, e, k⟩ := ih (i := i) (by simpa using hi)
      refine ⟨g1 ++ fa, fb, fc, by rw [e]; simp [List.append_assoc], fun v d f' h' => ?_⟩
      have := OwnS.yes e0 (k v d f' h')
      simpa [List.append_assoc] using this
/-- slot i is forgotten -/
theorem OwnS.drop (h : OwnS K mg G H σ ds f) (i : Nat) : ∃ fa fb fc, f = fa ++ fb ++ fc ∧ ∀ o, OwnS K mg G H (σ.set i o) (ds.set i none) (fa ++ fc) := by
  induction h generalizing i with
  | nil => exact ⟨[], [], [], rfl, fun o => by simpa using OwnS.nil⟩
  | @no o σ ds f h0 ih =>
    cases i with
    | zero => exact ⟨[], [], f, rfl, fun v => .no h0⟩
    | succ i =>
      obtain ⟨fa, fb, fc, e, k⟩ := ih i
      exact ⟨fa, fb, fc, e, fun o => .no (k o)⟩
  | @yes v0 d0 σ ds g1 g2 e0 h0 ih =>
    cases i with
    | zero => exact ⟨[], g1, g2, rfl, fun v => .no h0⟩
    | succ i =>
      obtain ⟨fa, fb, fc, e, k⟩ := ih i
      refine ⟨g1 ++ fa, fb, fc, by rw [e]; simp [List.append_assoc], fun o => ?_⟩
      have := OwnS.yes e0 (k o)
      simpa [List.append_assoc] using this
end
/-- from (G, H), of which f is one's own, to (G', H'), of which f' is -/
structure Ext (f : List Addr) (G H : Hp) (f' : List Addr) (G' H' : Hp) : Prop where
  gh : Same G' H'
  gg : Same G G'
  keep : ∀ a o, H a = some o → a ∉ f → H' a = some o
  fpn : ∀ a, a ∈ f' → a ∈ f ∨ H a = none
  gn : ∀ a o, G a = none → a ∉ f → H a = some o → G' a = none
section
variable {f f' f1 f2 f3 fr : List Addr} {G H G1 H1 G2 H2 : Hp}
theorem Ext.refl (g : Same G H) (f : List Addr) : Ext f G H f G H := ⟨g, Same.refl G, fun _ _ e _ => e, fun _ h => .inl h, fun _ _ e _ _ => e⟩
theorem Ext.trans (a : Ext f G H f1 G1 H1) (b : Ext f1 G1 H1 f2 G2 H2) : Ext f G H f2 G2 H2 where
  gh := b.gh
  gg := a.gg.trans b.gg
  keep := fun p o e n => b.keep p o (a.keep p o e n) fun h => by
    rcases a.fpn p h with h | h
    · exact n h
    · rw [h] at e; cases e
  fpn := fun p h => by
    rcases b.fpn p h with h | h
    · exact a.fpn p h
    · by_cases hp : p ∈ f
      · exact .inl hp
      · refine .inr ?_
        cases e : H p with
        | none => rfl
        | some o => rw [a.keep p o e hp] at h; cases h
  gn := fun p o g n e => b.gn p o (a.gn p o g n e) (fun h => by
    rcases a.fpn p h with h | h
    · exact n h
    · rw [h] at e; cases e) (a.keep p o e n)
theorem Ext.less (a : Ext f G H f1 G1 H1) (h : ∀ p ∈ f2, p ∈ f1) : Ext f G H f2 G1 H1 := ⟨a.gh, a.gg, a.keep, fun p q => a.fpn p (h p q), a.gn⟩
/-- what stands aside stays -/
theorem Ext.aside (b : Ext f1 G1 H1 f2 G2 H2) (h : ∀ p ∈ fr, (∃ o, H1 p = some o) ∧ G1 p = none) (n : ∀ p ∈ fr, p ∉ f1) : ∀ p ∈ fr, (∀ o, H1 p = some o → H2 p = some o) ∧ G2 p = none := fun p hp =>
  let ⟨⟨o, e⟩, g⟩ := h p hp
  ⟨fun o e => b.keep p o e (n p hp), b.gn p o g (n p hp) e⟩
theorem Ext.frame (b : Ext f1 G1 H1 f2 G2 H2) (fr : List Addr) (h : ∀ p ∈ fr, (∃ o, H1 p = some o) ∧ G1 p = none) : Ext (f1 ++ fr) G1 H1 (f2 ++ fr) G2 H2 where
  gh := b.gh
  gg := b.gg
  keep := fun p o e n => b.keep p o e fun q => n (List.mem_append_left _ q)
  fpn := fun p q => by
    rcases List.mem_append.mp q with q | q
    · exact (b.fpn p q).imp (List.mem_append_left _) id
    · exact .inl (List.mem_append_right _ q)
  gn := fun p o g n e => b.gn p o g (fun q => n (List.mem_append_left _ q)) e
theorem Ext.apart (b : Ext f1 G1 H1 f2 G2 H2) (h : ∀ p ∈ fr, (∃ o, H1 p = some o) ∧ G1 p = none) (n : ∀ p ∈ fr, p ∉ f1) : ∀ p ∈ fr, p ∉ f2 := fun p hp q => by
  rcases b.fpn p q with q | q
  · exact n p hp q
  · obtain ⟨⟨o, e⟩, _⟩ := h p hp
    rw [q] at e; cases e
end
/-- the state behind: slots σ hold ds, beside them the values vs are es -/
def Pst (K : KW) (mg : Str → Option Value) (f : List Addr) (G H : Hp) (σ : L2.St) (ds : DS) (vs : List V) (es : List D) (G' H' : Hp) : Prop :=
  ∃ f1 f2, Ext f G H (f1 ++ f2) G' H' ∧ OwnS K mg G' H' σ ds f1 ∧ Owns K mg G' H' vs es f2 ∧ (f1 ++ f2).Nodup
section
variable {K : KW} {mg : Str → Option Value} {f f1 f2 : List Addr} {G H G1 H1 G2 H2 : Hp} {σ : L2.St} {ds ds1 ds2 : DS} {vs ws : List V} {es es2 : List D}
theorem nodup_disj {f1 f2 : List Addr} (n : (f1 ++ f2).Nodup) : ∀ p ∈ f2, p ∉ f1 := fun p h q => (List.nodup_append.mp n).2.2 p q p h rfl
/-- a step more, beside what was reached so far -/
theorem Pst.and (x : Ext f G H (f1 ++ f2) G1 H1) (o1 : OwnS K mg G1 H1 σ ds1 f1) (o2 : Owns K mg G1 H1 vs es f2) (n : (f1 ++ f2).Nodup) (p : Pst K mg f1 G1 H1 σ ds2 ws es2 G2 H2) : Pst K mg f G H σ ds2 (vs ++ ws) (es ++ es2) G2 H2 := by
  obtain ⟨g1, g2, y, q1, q2, n2⟩ := p
  have hh := o2.here
  have nd := nodup_disj n
  have o2' : Owns K mg G2 H2 vs es f2 := o2.frame y.gg (y.aside hh nd)
  have z := x.trans (y.frame f2 hh)
  refine ⟨g1, f2 ++ g2, z.less ?_, q1, o2'.append q2, ?_⟩
  · intro p hp; simp only [List.mem_append] at hp ⊢; rcases hp with h | h | h <;> simp [h]
  · have ap := y.apart hh nd
    rw [List.nodup_append] at n n2 ⊢
    refine ⟨n2.1, ?_, ?_⟩
    · rw [List.nodup_append]
      exact ⟨n.2.1, n2.2.1, fun a ha b hb e => ap a ha (List.mem_append_right _ (e ▸ hb))⟩
    · intro a ha b hb e
      rcases List.mem_append.mp hb with hb | hb
      · exact ap b hb (List.mem_append_left _ (e ▸ ha))
      · exact n2.2.2 a ha b hb e
theorem Pst.refl (g : Same G H) (o : OwnS K mg G H σ ds f) (n : f.Nodup) : Pst K mg f G H σ ds [] [] G H := ⟨f, [], by simpa using Ext.refl g f, o, .nil, by simpa using n⟩
end
/-! ### readings of data -/
abbrev ME := DS → Option (D × DS)
abbrev MT := DS → Option (Bool × DS)
abbrev MA := DS → Option (List D × DS)
section
variable (K : KW) (mg : Str → Option Value)
def tm (m : ME) : TE := fun σ H Q => ∃ G ds f d ds', Same G H ∧ OwnS K mg G H σ ds f ∧ f.Nodup ∧ m ds = some (d, ds') ∧ ∀ v G' H', Pst K mg f G H σ ds' [v] [d] G' H' → Q v H'
def tt (m : MT) : TT := fun σ H Q => ∃ G ds f b ds', Same G H ∧ OwnS K mg G H σ ds f ∧ f.Nodup ∧ m ds = some (b, ds') ∧ ∀ G' H', Pst K mg f G H σ ds' [] [] G' H' → Q b H'
def ta (m : MA) : TA := fun σ H Q => ∃ G ds f es ds', Same G H ∧ OwnS K mg G H σ ds f ∧ f.Nodup ∧ m ds = some (es, ds') ∧ ∀ vs G' H', Pst K mg f G H σ ds' vs es G' H' → Q vs H'
end
inductive Out where
  | nx (ds : DS) | bk (ds : DS) | ct (ds : DS) | rt (d : D) (ds : DS)
abbrev MS := DS → Option Out
def PostO (K : KW) (mg : Str → Option Value) (E : Ends) (f : List Addr) (G H : Hp) (σ' : L2.St) : Out → Prop
  | .nx ds => ∀ G' H', Pst K mg f G H σ' ds [] [] G' H' → E.nx σ' H'
  | .bk ds => ∀ G' H', Pst K mg f G H σ' ds [] [] G' H' → E.bk σ' H'
  | .ct ds => ∀ G' H', Pst K mg f G H σ' ds [] [] G' H' → E.ct σ' H'
  | .rt d ds => ∀ v G' H', Pst K mg f G H σ' ds [v] [d] G' H' → E.rt v H'
/-- the slots fx stay bound as they are -/
def FixS (fx : Nat → Bool) (σ σ' : L2.St) : Prop := σ'.length = σ.length ∧ ∀ i, fx i = true → σ'[i]? = σ[i]?
theorem FixS.refl (fx : Nat → Bool) (σ : L2.St) : FixS fx σ σ := ⟨rfl, fun _ _ => rfl⟩
theorem FixS.trans {fx : Nat → Bool} {σ σ1 σ2 : L2.St} (a : FixS fx σ σ1) (b : FixS fx σ1 σ2) : FixS fx σ σ2 := ⟨b.1.trans a.1, fun i h => (b.2 i h).trans (a.2 i h)⟩
theorem FixS.set {fx : Nat → Bool} (σ : L2.St) {i : Nat} (o : Option V) (h : fx i = false) : FixS fx σ (σ.set i o) := ⟨List.length_set, fun j hj => by
  have : i ≠ j := fun e => by subst e; rw [h] at hj; cases hj
  rw [List.getElem?_set_ne this]⟩
def ts (K : KW) (mg : Str → Option Value) (fx : Nat → Bool) (m : MS) : TS := fun E σ H => ∃ G ds f out, Same G H ∧ OwnS K mg G H σ ds f ∧ f.Nodup ∧ m ds = some out ∧ ∀ σ', FixS fx σ σ' → PostO K mg E f G H σ' out
theorem PE.mono {X : Cx} {e : Expr} {t t' : TE} (h : PE X e t) (k : ∀ σ H Q, t' σ H Q → t σ H Q) : PE X e t' := ⟨fun pins s σ H Q I q => h.run pins s σ H Q I (k σ H Q q)⟩
theorem PT.mono {X : Cx} {e : Expr} {t t' : TT} (h : PT X e t) (k : ∀ σ H Q, t' σ H Q → t σ H Q) : PT X e t' := ⟨fun pins s σ H Q I q => h.run pins s σ H Q I (k σ H Q q)⟩
theorem PA.mono {X : Cx} {e : List Expr} {t t' : TA} (h : PA X e t) (k : ∀ σ H Q, t' σ H Q → t σ H Q) : PA X e t' := ⟨fun pos pins s σ H Q I q => h.run pos pins s σ H Q I (k σ H Q q)⟩
theorem PS.mono {X : Cx} {e : Stmt} {t t' : TS} (h : PS X e t) (k : ∀ D σ H, t' D σ H → t D σ H) : PS X e t' := ⟨fun pins s σ H D I q => h.run pins s σ H D I (k D σ H q)⟩
theorem PSs.mono {X : Cx} {e : List Stmt} {t t' : TS} (h : PSs X e t) (k : ∀ D σ H, t' D σ H → t D σ H) : PSs X e t' := ⟨fun pins s σ H D I q => h.run pins s σ H D I (k D σ H q)⟩
abbrev XE (X : Cx) (e : Expr) (m : ME) : Prop := PE X e (tm X.kw X.mg m)
abbrev XT (X : Cx) (e : Expr) (m : MT) : Prop := PT X e (tt X.kw X.mg m)
abbrev XA (X : Cx) (e : List Expr) (m : MA) : Prop := PA X e (ta X.kw X.mg m)
abbrev XS (X : Cx) (fx : Nat → Bool) (e : Stmt) (m : MS) : Prop := PS X e (ts X.kw X.mg fx m)
abbrev XB (X : Cx) (fx : Nat → Bool) (e : List Stmt) (m : MS) : Prop := PSs X e (ts X.kw X.mg fx m)
end Z
namespace Z
open PySem PySem.Spec L2
section
variable {K : KW} {mg : Str → Option Value} {f f1 f2 : List Addr} {G H G1 H1 G2 H2 : Hp} {σ : L2.St} {ds ds1 ds2 : DS} {vs ws : List V} {es es2 : List D}
/-! ### values alone -/
def VPst (K : KW) (mg : Str → Option Value) (f : List Addr) (G H : Hp) (vs : List V) (es : List D) (G' H' : Hp) : Prop :=
  ∃ f', Ext f G H f' G' H' ∧ Owns K mg G' H' vs es f' ∧ f'.Nodup
/-- from values to others, the slots aside -/
theorem Pst.map (x : Ext f G H (f1 ++ f2) G1 H1) (o1 : OwnS K mg G1 H1 σ ds f1) (n : (f1 ++ f2).Nodup) (p : VPst K mg f2 G1 H1 ws es2 G2 H2) : Pst K mg f G H σ ds ws es2 G2 H2 := by
  obtain ⟨g, y, o, m⟩ := p
  have hh := o1.here
  have nd : ∀ p ∈ f1, p ∉ f2 := fun p h q => nodup_disj n p q h
  have y' : Ext (f1 ++ f2) G1 H1 (f1 ++ g) G2 H2 := by
    have := y.frame f1 hh
    refine ⟨this.gh, this.gg, fun p o e q => this.keep p o e ?_, fun p q => ?_, fun p o g q e => this.gn p o g ?_ e⟩
    · simp only [List.mem_append] at q ⊢; exact fun h => q h.symm
    · have := this.fpn p (by simp only [List.mem_append] at q ⊢; exact q.symm)
      simp only [List.mem_append] at this ⊢; exact this.imp Or.symm id
    · simp only [List.mem_append] at q ⊢; exact fun h => q h.symm
  refine ⟨f1, g, x.trans y', o1.frame y.gg (y.aside hh nd), o, ?_⟩
  have ap := y.apart hh nd
  rw [List.nodup_append] at n ⊢
  exact ⟨n.1, m, fun a ha b hb e => ap a ha (e ▸ hb)⟩
theorem VPst.same (g : Same G H) (o : Owns K mg G H vs es f2) (hs : ∀ p ∈ f2, p ∈ f) (n : f2.Nodup) : VPst K mg f G H vs es G H := ⟨f2, (Ext.refl g f).less hs, o, n⟩
theorem VPst.val {x : V} (g : Same G H) : VPst K mg f G H [x] [.v x] G H := VPst.same g (.v .nil) (by simp) List.nodup_nil
/-- a new object, owned -/
theorem Ext.new {p : Addr} {o : HO} (g : Same G H) (h : H p = none) : Ext f G H (p :: f) G (upd H p o) where
  gh := fun b u e => by rw [upd_ne (ne_of_none (g b u e) h)]; exact g b u e
  gg := Same.refl G
  keep := fun b u e _ => by rw [upd_ne (ne_of_none e h)]; exact e
  fpn := fun b q => by rcases List.mem_cons.mp q with rfl | q; · exact .inr h
                       exact .inl q
  gn := fun _ _ e _ _ => e
/-- a new object, known at once -/
theorem Ext.newK {p : Addr} {o : HO} (g : Same G H) (h : H p = none) : Ext f G H f (upd G p o) (upd H p o) where
  gh := fun b u e => by
    by_cases hb : b = p
    · subst hb; rw [upd_same] at e ⊢; exact e
    · rw [upd_ne hb] at e ⊢; exact g b u e
  gg := fun b u e => by rw [upd_ne (ne_of_none (g b u e) h)]; exact e
  keep := fun b u e _ => by rw [upd_ne (ne_of_none e h)]; exact e
  fpn := fun b q => .inl q
  gn := fun b u e _ eh => by rw [upd_ne (ne_of_none eh h)]; exact e
theorem not_g {p : Addr} (g : Same G H) (h : H p = none) : G p = none := by
  cases e : G p with
  | none => rfl
  | some o => rw [g p o e] at h; cases h
end
/-! ### rules: constants, names -/
def mC (x : V) : ME := fun ds => some (.v x, ds)
def mVar (i : Nat) : ME := fun ds => match ds[i]? with
  | some (some d) => if clean d then some (d, ds) else if clean (fz d) then some (fz d, ds.set i (some (fz d))) else none
  | _ => none
def mMove (i : Nat) : ME := fun ds => match ds[i]? with
  | some (some d) => some (d, ds.set i none)
  | _ => none
section
variable {K : KW} {mg : Str → Option Value} {X : Cx} {σ : L2.St} {H : Hp} {Q : VK}
theorem tm_c {x : V} (h : tm K mg (mC x) σ H Q) : Q x H := by
  obtain ⟨G, ds, f, d, ds', g, o, n, e, k⟩ := h
  cases e
  exact k _ G H (Pst.map (f1 := f) (f2 := []) (by simpa using Ext.refl g f) o (by simpa using n) (VPst.val g))
theorem clean_sing {d : D} (c : clean d = true) : cleans [d] = true := by simp [cleans, c]
theorem tm_var {i : Nat} (h : tm K mg (mVar i) σ H Q) : tVar i σ H Q := by
  obtain ⟨G, ds, f, d, ds', g, o, n, e, k⟩ := h
  unfold mVar at e
  split at e
  · rename_i d0 hi
    obtain ⟨v, fa, fb, fc, rfl, hv, ho, kk⟩ := o.split hi
    split at e
    · rename_i hc
      cases e
      have := ho.clean (clean_sing hc)
      subst this
      exact ⟨v, hv, k v G H (Pst.map (f1 := fa ++ [] ++ fc) (f2 := []) (by simpa using Ext.refl g _) o (by simpa using n) (VPst.same g ho (by simp) List.nodup_nil))⟩
    · split at e
      · rename_i hc hz
        cases e
        have hh := o.here
        have hb : ∀ a ∈ fb, (∃ o, H a = some o) ∧ G a = none := fun a h => hh a (by simp [h])
        let G' : Hp := fun a => if a ∈ fb then H a else G a
        have gG : Same G G' := fun b u e => by
          show (if b ∈ fb then H b else G b) = some u
          rw [if_neg (fun h => by have := (hb b h).2; rw [this] at e; cases e)]; exact e
        have gH : Same G' H := fun b u e => by
          by_cases h : b ∈ fb
          · have : G' b = H b := if_pos h
            rw [this] at e; exact e
          · have : G' b = G b := if_neg h
            rw [this] at e; exact g b u e
        have hk : ∀ a ∈ fb, ∀ u, H a = some u → G' a = some u := fun a h u e => by show (if a ∈ fb then H a else G a) = some u; rw [if_pos h]; exact e
        have hfz : Owns K mg G' H [v] [fz d0] [] := ho.freeze (clean_sing hz) gG hk
        have hn : ∀ a, a ∉ fb → G a = none → G' a = none := fun a h e => by show (if a ∈ fb then H a else G a) = none; rw [if_neg h]; exact e
        have nd1 : ∀ a, a ∈ fa ∨ a ∈ fc → a ∉ fb := by
          intro a ha hb
          simp only [List.nodup_append, List.mem_append] at n
          rcases ha with ha | ha
          · exact n.1.2.2 a ha a hb rfl
          · exact n.2.2 a (.inr hb) a ha rfl
        obtain ⟨_, k2⟩ := kk G' H gG fun a ha => ⟨fun o e => e, hn a (nd1 a ha) (hh a (by rcases ha with h | h <;> simp [h])).2⟩
        have ex : Ext (fa ++ fb ++ fc) G H (fa ++ fc) G' H := ⟨gH, gG, fun _ _ e _ => e, fun p hp => .inl (by simp only [List.mem_append] at hp ⊢; rcases hp with h | h <;> simp [h]), fun p u e q _ => hn p (fun h => q (by simp [h])) e⟩
        refine ⟨v, hv, k v G' H (Pst.map (f1 := fa ++ [] ++ fc) (f2 := []) (by simpa using ex) (k2 _ _ hfz) ?_ (VPst.same gH hfz (by simp) List.nodup_nil))⟩
        simp only [List.append_nil, List.nodup_append, List.mem_append] at n ⊢
        exact ⟨n.1.1, n.2.1, fun a ha b hb => n.2.2 a (.inl ha) b hb⟩
      · cases e
  · cases e
theorem tm_move {i : Nat} (h : tm K mg (mMove i) σ H Q) : tVar i σ H Q := by
  obtain ⟨G, ds, f, d, ds', g, o, n, e, k⟩ := h
  unfold mMove at e
  split at e
  · rename_i d0 hi
    obtain ⟨v, fa, fb, fc, rfl, hv, ho, kk⟩ := o.split hi
    cases e
    obtain ⟨k1, _⟩ := kk G H (Same.refl G) fun a ha => ⟨fun o e => e, (o.here a (by rcases ha with h | h <;> simp [h])).2⟩
    refine ⟨v, hv, k v G H ⟨fa ++ fc, fb, ?_, k1, ho, ?_⟩⟩
    · exact (Ext.refl g _).less (by intro p hp; simp only [List.mem_append] at hp ⊢; rcases hp with (h | h) | h <;> simp [h])
    · simp only [List.nodup_append, List.mem_append] at n ⊢
      exact ⟨⟨n.1.1, n.2.1, fun a ha b hb => n.2.2 a (.inl ha) b hb⟩, n.1.2.1, fun a ha b hb e => by
        rcases ha with ha | ha
        · exact n.1.2.2 a ha b hb e
        · exact n.2.2 b (.inr hb) a ha e.symm⟩
  · cases e
theorem xe_int {i j pos} : XE X (.Constant (.int i) j pos) (mC (.int i)) := PE.mono pe_int fun _ _ _ h => tm_c h
theorem xe_bl {b j pos} : XE X (.Constant (.bool b) j pos) (mC (.bl b)) := PE.mono pe_bl fun _ _ _ h => tm_c h
theorem xe_str {x j pos} : XE X (.Constant (.str x) j pos) (mC (.str x)) := PE.mono pe_str fun _ _ _ h => tm_c h
theorem xv (i : Nat) {x : Str} {pos : Pos} (hN : X.N[i]? = some x := by rfl) (hv : Vis X.env.scope x := by first | exact Or.inl rfl | exact Or.inr (Or.inl rfl) | exact Or.inr (Or.inr rfl)) (hd : (x == ("__debug__" : Str)) = false := by decide) (hcd : (x == ("__classdict__" : Str)) = false := by decide) : XE X (.Name x pos) (mVar i) :=
  PE.mono (pe_var hN hv hd hcd) fun _ _ _ h => tm_var h
theorem xmv (i : Nat) {x : Str} {pos : Pos} (hN : X.N[i]? = some x := by rfl) (hv : Vis X.env.scope x := by first | exact Or.inl rfl | exact Or.inr (Or.inl rfl) | exact Or.inr (Or.inr rfl)) (hd : (x == ("__debug__" : Str)) = false := by decide) (hcd : (x == ("__classdict__" : Str)) = false := by decide) : XE X (.Name x pos) (mMove i) :=
  PE.mono (pe_var hN hv hd hcd) fun _ _ _ h => tm_move h
end
/-! ### two values to one -/
def OpD (K : KW) (mg : Str → Option Value) (r : R2) (g : D → D → Option D) : Prop := ∀ (G H : Hp) (x y : V) (d e d' : D) (f : List Addr) (Q : VK), Same G H → Owns K mg G H [x, y] [d, e] f → f.Nodup → g d e = some d' →
  (∀ v G' H', VPst K mg f G H [v] [d'] G' H' → Q v H') → r x y H Q
def mOp (g : D → D → Option D) (ma mb : ME) : ME := fun ds => match ma ds with
  | some (d, ds1) => match mb ds1 with
    | some (e, ds2) => match g d e with
      | some d' => some (d', ds2)
      | none => none
    | none => none
  | none => none
def mTst (m : ME) : MT := fun ds => match m ds with
  | some (.v (.bl b), ds1) => some (b, ds1)
  | _ => none
section
variable {K : KW} {mg : Str → Option Value} {X : Cx} {σ : L2.St} {H : Hp} {Q : VK} {r : R2} {g : D → D → Option D} {ma mb : ME}
theorem tm_op (hg : OpD K mg r g) (h : tm K mg (mOp g ma mb) σ H Q) : tOp r (tm K mg ma) (tm K mg mb) σ H Q := by
  obtain ⟨G, ds, f, d, ds', gh, o, n, e, k⟩ := h
  unfold mOp at e
  split at e
  · rename_i d1 ds1 e1
    split at e
    · rename_i d2 ds2 e2
      split at e
      · rename_i d3 e3
        cases e
        refine ⟨G, ds, f, d1, ds1, gh, o, n, e1, fun v1 G1 H1 p1 => ?_⟩
        obtain ⟨f1, f2, x1, o1, q1, n1⟩ := p1
        refine ⟨G1, ds1, f1, d2, ds', x1.gh, o1, (List.nodup_append.mp n1).1, e2, fun v2 G2 H2 p2 => ?_⟩
        obtain ⟨g1, g2, x2, o2, q2, n2⟩ := Pst.and x1 o1 q1 n1 p2
        exact hg G2 H2 v1 v2 d1 d2 d g2 _ x2.gh q2 (List.nodup_append.mp n2).2.1 e3 fun v G' H' p => k v G' H' (Pst.map x2 o2 n2 p)
      · cases e
    · cases e
  · cases e
theorem tt_tst {m : ME} {t : TE} (ht : ∀ Q, tm K mg m σ H Q → t σ H Q) {Q : Bool → Hp → Prop} (h : tt K mg (mTst m) σ H Q) : tTest t σ H Q := by
  obtain ⟨G, ds, f, b, ds', gh, o, n, e, k⟩ := h
  unfold mTst at e
  split at e
  · rename_i b1 ds1 e1
    cases e
    refine ht _ ⟨G, ds, f, _, _, gh, o, n, e1, fun v G1 H1 p1 => ?_⟩
    obtain ⟨f1, f2, x1, o1, q1, n1⟩ := p1
    cases q1 with
    | v q1 =>
      cases q1
      exact ⟨b, rfl, k G1 H1 ⟨f1, [], x1, o1, .nil, n1⟩⟩
  · cases e
theorem xe_op {op : Operator} {a b : Expr} {pos : Pos} (ho : OpR X (binaryOp op) r) (hg : OpD X.kw X.mg r g) (ha : XE X a ma) (hb : XE X b mb) : XE X (.BinOp a op b pos) (mOp g ma mb) :=
  PE.mono (pe_op ho ha hb) fun _ _ _ h => tm_op hg h
theorem xe_cmp {op : CmpOp} {a b : Expr} {pos : Pos} (ho : OpR X (compareOp op) r) (hg : OpD X.kw X.mg r g) (ha : XE X a ma) (hb : XE X b mb) (hm : behindInMarks op b = false) : XE X (.Compare a [op] [b] pos) (mOp g ma mb) :=
  PE.mono (pe_cmpR ho ha hb hm) fun _ _ _ h => tm_op hg h
theorem xt_cmp {op : CmpOp} {a b : Expr} {pos : Pos} (ho : OpR X (compareOp op) r) (hg : OpD X.kw X.mg r g) (ha : XE X a ma) (hb : XE X b mb) (hm : behindInMarks op b = false) : XT X (.Compare a [op] [b] pos) (mTst (mOp g ma mb)) :=
  PT.mono (pt_cmpR ho ha hb hm) fun _ _ _ h => tt_tst (fun _ q => tm_op hg q) h
theorem xt_val {e : Expr} {m : ME} (h : XE X e m) (he : ∀ whole, isTrue e X.env whole = (do let v ← whole; standAt e.pos; holding [v] (truthy v)) := by intro _; rfl) : XT X e (mTst m) :=
  PT.mono (pt_val h he) fun _ _ _ q => tt_tst (fun _ q => q) q
/-! and, or, not -/
def mAnd (a b : MT) : MT := fun ds => match a ds with
  | some (true, ds1) => b ds1
  | some (false, ds1) => some (false, ds1)
  | none => none
def mOr (a b : MT) : MT := fun ds => match a ds with
  | some (true, ds1) => some (true, ds1)
  | some (false, ds1) => b ds1
  | none => none
def mNot (a : MT) : MT := fun ds => match a ds with
  | some (b, ds1) => some (!b, ds1)
  | none => none
theorem Pst.nil_trans {f f1 : List Addr} {G H G1 H1 G2 H2 : Hp} {ds2 : DS} {ws : List V} {es : List D} (x1 : Ext f G H (f1 ++ []) G1 H1) (p : Pst K mg f1 G1 H1 σ ds2 ws es G2 H2) : Pst K mg f G H σ ds2 ws es G2 H2 := by
  obtain ⟨g1, g2, y, q1, q2, n2⟩ := p
  exact ⟨g1, g2, (by simpa using x1 : Ext f G H f1 G1 H1).trans y, q1, q2, n2⟩
theorem tt_and {A B : MT} {Q : Bool → Hp → Prop} (h : tt K mg (mAnd A B) σ H Q) : tAnd (tt K mg A) (tt K mg B) σ H Q := by
  obtain ⟨G, ds, f, b, ds', gh, o, n, e, k⟩ := h
  unfold mAnd at e
  split at e
  · rename_i ds1 e1
    refine ⟨G, ds, f, true, ds1, gh, o, n, e1, fun G1 H1 p1 => ?_⟩
    obtain ⟨f1, f2, x1, o1, q1, n1⟩ := p1
    cases q1
    show tt K mg B σ H1 Q
    exact ⟨G1, ds1, f1, b, ds', x1.gh, o1, (List.nodup_append.mp n1).1, e, fun G2 H2 p2 => k G2 H2 (Pst.nil_trans x1 p2)⟩
  · rename_i ds1 e1
    cases e
    exact ⟨G, ds, f, false, _, gh, o, n, e1, fun G1 H1 p1 => k G1 H1 p1⟩
  · cases e
theorem tt_or {A B : MT} {Q : Bool → Hp → Prop} (h : tt K mg (mOr A B) σ H Q) : tOr (tt K mg A) (tt K mg B) σ H Q := by
  obtain ⟨G, ds, f, b, ds', gh, o, n, e, k⟩ := h
  unfold mOr at e
  split at e
  · rename_i ds1 e1
    cases e
    exact ⟨G, ds, f, true, _, gh, o, n, e1, fun G1 H1 p1 => k G1 H1 p1⟩
  · rename_i ds1 e1
    refine ⟨G, ds, f, false, ds1, gh, o, n, e1, fun G1 H1 p1 => ?_⟩
    obtain ⟨f1, f2, x1, o1, q1, n1⟩ := p1
    cases q1
    show tt K mg B σ H1 Q
    exact ⟨G1, ds1, f1, b, ds', x1.gh, o1, (List.nodup_append.mp n1).1, e, fun G2 H2 p2 => k G2 H2 (Pst.nil_trans x1 p2)⟩
  · cases e
theorem tt_not {A : MT} {Q : Bool → Hp → Prop} (h : tt K mg (mNot A) σ H Q) : tNot (tt K mg A) σ H Q := by
  obtain ⟨G, ds, f, b, ds', gh, o, n, e, k⟩ := h
  unfold mNot at e
  split at e
  · rename_i b1 ds1 e1
    cases e
    exact ⟨G, ds, f, b1, _, gh, o, n, e1, fun G1 H1 p1 => k G1 H1 p1⟩
  · cases e
abbrev XW (X : Cx) (e : Expr) (m : MT) : Prop := PW X e (tt X.kw X.mg m)
variable {a b : Expr} {rest : List Expr} {pos : Pos} {A B : MT}
theorem PW.mono {X : Cx} {e : Expr} {t t' : TT} (h : PW X e t) (k : ∀ σ H Q, t' σ H Q → t σ H Q) : PW X e t' := ⟨fun w pins s σ H Q I q => h.run w pins s σ H Q I (k σ H Q q)⟩
theorem xw_and1 (ha : XT X a A) : XW X (.BoolOp .And [a] pos) A := pw_and1 ha
theorem xw_or1 (ha : XT X a A) : XW X (.BoolOp .Or [a] pos) A := pw_or1 ha
theorem xw_and (ha : XT X a A) (hb : XW X (.BoolOp .And (b :: rest) pos) B) : XW X (.BoolOp .And (a :: b :: rest) pos) (mAnd A B) := PW.mono (pw_and ha hb) fun _ _ _ h => tt_and h
theorem xw_or (ha : XT X a A) (hb : XW X (.BoolOp .Or (b :: rest) pos) B) : XW X (.BoolOp .Or (a :: b :: rest) pos) (mOr A B) := PW.mono (pw_or ha hb) fun _ _ _ h => tt_or h
theorem xt_w {e : Expr} (h : XW X e A) : XT X e A := PW.pt h
theorem xt_not (ha : XT X a A) : XT X (.UnaryOp .Not a pos) (mNot A) := PT.mono (pt_not ha) fun _ _ _ h => tt_not h
end
end Z
namespace Z
open PySem PySem.Spec L2
section
variable {K : KW} {mg : Str → Option Value} {f f1 f2 : List Addr} {G H G1 H1 G2 H2 : Hp} {σ : L2.St} {ds ds1 ds2 : DS} {vs ws : List V} {es es2 : List D} {x y : V} {d e : D}
/-! ### what stands behind a datum -/
theorem Owns.two (h : Owns K mg G H [x, y] [d, e] f) : ∃ f1 f2, f = f1 ++ f2 ∧ Owns K mg G H [x] [d] f1 ∧ Owns K mg G H [y] [e] f2 := by
  obtain ⟨f1, f2, e, h1, h2⟩ := h.cons_inv
  exact ⟨f1, f2, e, h1, h2⟩
theorem Owns.v_inv {w : V} (h : Owns K mg G H [x] [.v w] f) : x = w ∧ f = [] := by
  cases h with
  | v h => cases h; exact ⟨rfl, rfl⟩
theorem Owns.tup_inv (h : Owns K mg G H [x] [.tup es] f) (g : Same G H) : ∃ a xs, x = .ref a ∧ SqT K H a xs ∧ SqT K G a xs ∧ Owns K mg G H xs es f := by
  cases h with
  | tup e a b => cases b; exact ⟨_, _, rfl, .inl (.inl (g _ _ e)), .inl (.inl e), by simpa using a⟩
theorem Owns.ktp_inv (h : Owns K mg G H [x] [.ktp es] f) (g : Same G H) : ∃ a xs, x = .ref a ∧ SqT K H a xs ∧ SqT K G a xs ∧ Owns K mg G H xs es f := by
  cases h with
  | kt e a b => cases b; exact ⟨_, _, rfl, sqT_mono g e, e, by simpa using a⟩
theorem Owns.lst_inv {o : O} (h : Owns K mg G H [x] [.lst o es] f) (g : Same G H) : ∃ a xs f', x = .ref a ∧ SqL K H a xs ∧ Owns K mg G H xs es f' ∧ (∀ p ∈ f', p ∈ f) ∧ (f.Nodup → f'.Nodup) := by
  cases h with
  | el e a b => cases b; exact ⟨_, _, _, rfl, sqL_mono g e, a, by simp, by simp⟩
  | fl e a b => cases b; exact ⟨_, _, _, rfl, .inl (.inl (g _ _ e)), a, by simp, by simp⟩
  | ol e n a b => cases b; exact ⟨_, _, _, rfl, .inl (.inl e), a, by simp; intro p h; exact .inr h, fun q => by simpa using (List.nodup_cons.mp q).2⟩
theorem Owns.lstH_inv {o : O} (h : Owns K mg G H [x] [.lst o es] f) (g : Same G H) (ho : o ≠ .ext) : ∃ a xs f', x = .ref a ∧ H a = some (.lst xs) ∧ Owns K mg G H xs es f' ∧ (∀ p ∈ f', p ∈ f) ∧ (f.Nodup → f'.Nodup) := by
  cases h with
  | el e a b => exact absurd rfl ho
  | fl e a b => cases b; exact ⟨_, _, _, rfl, g _ _ e, a, by simp, by simp⟩
  | ol e n a b => cases b; exact ⟨_, _, _, rfl, e, a, by simp; intro p h; exact .inr h, fun q => by simpa using (List.nodup_cons.mp q).2⟩
theorem Owns.own_inv (h : Owns K mg G H [x] [.lst .own es] f) : ∃ a xs f', x = .ref a ∧ H a = some (.lst xs) ∧ G a = none ∧ Owns K mg G H xs es f' ∧ f = a :: f' := by
  cases h with
  | ol e n a b => cases b; exact ⟨_, _, _, rfl, e, n, a, by simp⟩
/-- an item -/
theorem Owns.item (h : Owns K mg G H vs es f) : ∀ {j : Nat} {d : D}, es[j]? = some d → ∃ v f', vs[j]? = some v ∧ Owns K mg G H [v] [d] f' ∧ (∀ p ∈ f', p ∈ f) ∧ (f.Nodup → f'.Nodup) := by
  have key : ∀ (vs : List V) (es : List D) (f : List Addr), Owns K mg G H vs es f → ∀ {j : Nat} {d : D}, es[j]? = some d → ∃ v f', vs[j]? = some v ∧ Owns K mg G H [v] [d] f' ∧ (∀ p ∈ f', p ∈ f) ∧ (f.Nodup → f'.Nodup) := by
    intro vs es
    induction es generalizing vs with
    | nil => intro f h j d e; simp at e
    | cons d0 es ih =>
      intro f h j d e
      cases vs with
      | nil => cases h
      | cons v vs =>
        obtain ⟨f1, f2, rfl, h1, h2⟩ := h.cons_inv
        cases j with
        | zero =>
          have : d0 = d := by simpa using e
          subst this
          exact ⟨v, f1, rfl, h1, fun p q => List.mem_append_left _ q, fun n => (List.nodup_append.mp n).1⟩
        | succ j =>
          obtain ⟨w, f', a, b, c, n⟩ := ih vs f2 h2 (by simpa using e)
          exact ⟨w, f', by simpa using a, b, fun p q => List.mem_append_right _ (c p q), fun m => n (List.nodup_append.mp m).2.1⟩
  intro j d e
  exact key vs es f h e
theorem Owns.fresh (h : Owns K mg G H vs es f) (g : Same G H) {p : Addr} {o : HO} (n : H p = none) : Owns K mg G (upd H p o) vs es f := h.frame (Same.refl G) fun a ha => ⟨fun u e => by rw [upd_ne (ne_of_none e n)]; exact e, (h.here a ha).2⟩
theorem Owns.freshK (h : Owns K mg G H vs es f) (g : Same G H) {p : Addr} {o : HO} (n : H p = none) : Owns K mg (upd G p o) (upd H p o) vs es f := h.frame (fun b u e => by rw [upd_ne (ne_of_none (g b u e) n)]; exact e) fun a ha =>
  let ⟨⟨u, e⟩, q⟩ := h.here a ha
  ⟨fun u e => by rw [upd_ne (ne_of_none e n)]; exact e, by rw [upd_ne (ne_of_none e n)]; exact q⟩
/-- a new list of these, owned -/
theorem VPst.newL {p : Addr} (g : Same G H) (o : Owns K mg G H vs es f2) (hs : ∀ a ∈ f2, a ∈ f) (n : f2.Nodup) (h : H p = none) : VPst K mg f G H [.ref p] [.lst .own es] G (upd H p (.lst vs)) := by
  refine ⟨p :: (f2 ++ []), ?_, .ol upd_same (not_g g h) (o.fresh g h) .nil, ?_⟩
  · refine (Ext.new (f := f) g h).less ?_
    intro a ha
    rcases List.mem_cons.mp ha with rfl | ha
    · exact List.mem_cons_self
    · exact List.mem_cons_of_mem _ (hs a (by simpa using ha))
  · rw [List.append_nil, List.nodup_cons]
    refine ⟨fun hp => ?_, n⟩
    obtain ⟨u, e⟩ := (o.here p hp).1
    rw [h] at e; cases e
/-- a new tuple of these -/
theorem VPst.newT {p : Addr} (g : Same G H) (o : Owns K mg G H vs es f2) (hs : ∀ a ∈ f2, a ∈ f) (n : f2.Nodup) (h : H p = none) : VPst K mg f G H [.ref p] [.tup es] (upd G p (.tup vs)) (upd H p (.tup vs)) := by
  refine ⟨f2 ++ [], ?_, .tup upd_same (o.freshK g h) .nil, by simpa using n⟩
  exact (Ext.newK (f := f) g h).less fun a ha => hs a (by simpa using ha)
/-! ### as the library's data -/
mutual
def py : D → Option PyData
  | .v .non => some .none
  | .v (.bl b) => some (.bool b)
  | .v (.int i) => some (.int i)
  | .v (.str s) => some (.str s)
  | .tup ds => (pys ds).map .tuple
  | .lst _ ds => (pys ds).map .list
  | _ => none
def pys : List D → Option (List PyData)
  | [] => some []
  | d :: ds => match py d, pys ds with
    | some p, some q => some (p :: q)
    | _, _ => none
end
theorem Owns.dp (h : Owns K mg G H vs es f) (g : Same G H) {ps : List PyData} (e : pys es = some ps) : DpAll K H vs ps := by
  induction h generalizing ps with
  | nil => simp only [pys] at e; cases e; exact .nil
  | @v x vs ds f h ih =>
    rw [pys] at e
    cases hp : py (.v x) with
    | none => rw [hp] at e; cases e
    | some p =>
      cases hq : pys ds with
      | none => rw [hp, hq] at e; cases e
      | some q =>
        rw [hp, hq] at e; cases e
        refine .cons ?_ (ih hq)
        cases x <;> simp only [py] at hp <;> cases hp
        · exact .non
        · exact .bl _
        · exact .int _
        · exact .str _
  | @tup a xs vs es ds f1 f2 hs _ _ i1 i2 =>
    rw [pys] at e
    cases hp : py (.tup es) with
    | none => rw [hp] at e; cases e
    | some p =>
      cases hq : pys ds with
      | none => rw [hp, hq] at e; cases e
      | some q =>
        rw [hp, hq] at e; cases e
        rw [py] at hp
        cases hr : pys es with
        | none => rw [hr] at hp; cases hp
        | some r => rw [hr] at hp; cases hp; exact .cons (.tup (.inl (.inl (g _ _ hs))) (i1 hr)) (i2 hq)
  | @el a xs vs es ds f1 f2 hs _ _ i1 i2 =>
    rw [pys] at e
    cases hp : py (.lst .ext es) with
    | none => rw [hp] at e; cases e
    | some p =>
      cases hq : pys ds with
      | none => rw [hp, hq] at e; cases e
      | some q =>
        rw [hp, hq] at e; cases e
        rw [py] at hp
        cases hr : pys es with
        | none => rw [hr] at hp; cases hp
        | some r => rw [hr] at hp; cases hp; exact .cons (.lst (sqL_mono g hs) (i1 hr)) (i2 hq)
  | @fl a xs vs es ds f1 f2 hs _ _ i1 i2 =>
    rw [pys] at e
    cases hp : py (.lst .fro es) with
    | none => rw [hp] at e; cases e
    | some p =>
      cases hq : pys ds with
      | none => rw [hp, hq] at e; cases e
      | some q =>
        rw [hp, hq] at e; cases e
        rw [py] at hp
        cases hr : pys es with
        | none => rw [hr] at hp; cases hp
        | some r => rw [hr] at hp; cases hp; exact .cons (.lst (.inl (.inl (g _ _ hs))) (i1 hr)) (i2 hq)
  | @ol a xs vs es ds f1 f2 hs _ _ _ i1 i2 =>
    rw [pys] at e
    cases hp : py (.lst .own es) with
    | none => rw [hp] at e; cases e
    | some p =>
      cases hq : pys ds with
      | none => rw [hp, hq] at e; cases e
      | some q =>
        rw [hp, hq] at e; cases e
        rw [py] at hp
        cases hr : pys es with
        | none => rw [hr] at hp; cases hp
        | some r => rw [hr] at hp; cases hp; exact .cons (.lst (.inl (.inl hs)) (i1 hr)) (i2 hq)
  | kt | fd | xd | od | ft | ot | fn | on | fi | oi | hl => simp [pys, py] at e
theorem Owns.dp1 (h : Owns K mg G H [x] [d] f) (g : Same G H) {p : PyData} (e : py d = some p) : Dp K H x p := by
  have := h.dp g (ps := [p]) (by simp [pys, e])
  cases this with
  | cons a _ => exact a
/-! ### operators -/
def dInt2 (g : Int → Int → V) : D → D → Option D
  | .v (.int i), .v (.int j) => some (.v (g i j))
  | _, _ => none
def dInt2C (C : Int → Int → Bool) (g : Int → Int → V) : D → D → Option D
  | .v (.int i), .v (.int j) => if C i j then some (.v (g i j)) else none
  | _, _ => none
theorem opd_int {g : Int → Int → V} : OpD K mg (rI0 g) (dInt2 g) := by
  intro G H x y d e d' f Q gh h n q k
  unfold dInt2 at q
  split at q
  · cases q
    obtain ⟨f1, f2, rfl, h1, h2⟩ := h.two
    obtain ⟨rfl, rfl⟩ := h1.v_inv
    obtain ⟨rfl, rfl⟩ := h2.v_inv
    exact ⟨_, _, rfl, rfl, k _ G H (VPst.val gh)⟩
  · cases q
theorem opd_intC {C : Int → Int → Bool} {C' : Int → Int → Prop} {g : Int → Int → V} (hc : ∀ i j, C i j = true → C' i j) : OpD K mg (rI C' g) (dInt2C C g) := by
  intro G H x y d e d' f Q gh h n q k
  unfold dInt2C at q
  split at q
  · split at q
    · rename_i c
      cases q
      obtain ⟨f1, f2, rfl, h1, h2⟩ := h.two
      obtain ⟨rfl, rfl⟩ := h1.v_inv
      obtain ⟨rfl, rfl⟩ := h2.v_inv
      exact ⟨_, _, rfl, rfl, hc _ _ c, k _ G H (VPst.val gh)⟩
    · cases q
  · cases q
def cMul (i j : Int) : Bool := decide ((-(2 ^ 64) < i ∧ i < 2 ^ 64) ∨ (-(2 ^ 64) < j ∧ j < 2 ^ 64) ∨ i.natAbs.log2 + j.natAbs.log2 < 1000000)
def dMul : D → D → Option D := dInt2C cMul fun i j => .int (i * j)
theorem opd_mul : OpD K mg (fun x y H Q => (rI CMul fun i j => .int (i * j)) x y H Q ∨ (rI CMulW fun i j => .int (i * j)) x y H Q) dMul := by
  intro G H x y d e d' f Q gh h n q k
  unfold dMul dInt2C at q
  split at q
  · split at q
    · rename_i c
      cases q
      obtain ⟨f1, f2, rfl, h1, h2⟩ := h.two
      obtain ⟨rfl, rfl⟩ := h1.v_inv
      obtain ⟨rfl, rfl⟩ := h2.v_inv
      have c' := of_decide_eq_true c
      rcases c' with c' | c' | c'
      · exact .inl ⟨_, _, rfl, rfl, .inl c', k _ G H (VPst.val gh)⟩
      · exact .inl ⟨_, _, rfl, rfl, .inr c', k _ G H (VPst.val gh)⟩
      · exact .inr ⟨_, _, rfl, rfl, c', k _ G H (VPst.val gh)⟩
    · cases q
  · cases q
def dFdiv : D → D → Option D := dInt2C (fun _ j => decide (0 < j ∧ j.natAbs.log2 < 9000)) fun i j => .int (i / j)
def dMod : D → D → Option D := dInt2C (fun _ j => decide (0 < j)) fun i j => .int (i % j)
def dPow : D → D → Option D := dInt2C (fun i j => decide (0 ≤ j ∧ j ≤ 1000000 ∧ i.natAbs < 2 ^ 64)) fun i j => .int (i ^ j.toNat)
def dShr : D → D → Option D := dInt2C (fun _ j => decide (0 ≤ j)) fun i j => .int (i / 2 ^ j.toNat)
def dSub : D → D → Option D := dInt2 fun i j => .int (i - j)
def dAdd : D → D → Option D
  | .v (.int i), .v (.int j) => some (.v (.int (i + j)))
  | .v (.str i), .v (.str j) => if i.length + j.length ≤ 16777216 then some (.v (.str (i ++ j))) else none
  | .lst o xs, .lst o2 ys => if o ≠ .ext ∧ o2 ≠ .ext ∧ xs.length + ys.length ≤ 16777216 then some (.lst .own (xs ++ ys)) else none
  | .tup xs, .tup ys => if xs.length + ys.length ≤ 16777216 then some (.tup (xs ++ ys)) else none
  | _, _ => none
def rAddA (K : PySem.W.Frag) : R2 := fun x y H Q => (rI0 fun i j => .int (i + j)) x y H Q ∨ ((∃ i j, x = .str i ∧ y = .str j ∧ i.length + j.length ≤ sizeLine ∧ Q (.str (i ++ j)) H) ∨ (rCat x y H Q ∨ rCatA K x y H Q))
theorem line : (16777216 : Nat) = sizeLine := sizeLine_eq.symm
theorem opd_add : OpD K mg (rAddA K) dAdd := by
  intro G H x y d e d' f Q gh h n q k
  obtain ⟨f1, f2, rfl, h1, h2⟩ := h.two
  have nn := List.nodup_append.mp n
  unfold dAdd at q
  split at q
  · cases q
    obtain ⟨rfl, rfl⟩ := h1.v_inv
    obtain ⟨rfl, rfl⟩ := h2.v_inv
    exact .inl ⟨_, _, rfl, rfl, k _ G H (VPst.val gh)⟩
  · split at q
    · rename_i c
      cases q
      obtain ⟨rfl, rfl⟩ := h1.v_inv
      obtain ⟨rfl, rfl⟩ := h2.v_inv
      exact .inr (.inl ⟨_, _, rfl, rfl, line ▸ c, k _ G H (VPst.val gh)⟩)
    · cases q
  · split at q
    · rename_i c
      cases q
      obtain ⟨a, xs, g1, rfl, e1, w1, s1, m1⟩ := h1.lstH_inv gh c.1
      obtain ⟨b, ys, g2, rfl, e2, w2, s2, m2⟩ := h2.lstH_inv gh c.2.1
      refine .inr (.inr (.inl ⟨a, b, xs, ys, rfl, rfl, e1, e2, ?_, fun p hp => k _ _ _ (VPst.newL gh (w1.append w2) ?_ ?_ hp)⟩))
      · rw [w1.length, w2.length]; exact line ▸ c.2.2
      · intro p hp
        rcases List.mem_append.mp hp with hp | hp
        · exact List.mem_append_left _ (s1 p hp)
        · exact List.mem_append_right _ (s2 p hp)
      · rw [List.nodup_append]
        exact ⟨m1 nn.1, m2 nn.2.1, fun a ha b hb => nn.2.2 a (s1 a ha) b (s2 b hb)⟩
    · cases q
  · split at q
    · rename_i ex ey c
      cases q
      obtain ⟨a, xs, rfl, e1, e1', w1⟩ := h1.tup_inv gh
      obtain ⟨b, ys, rfl, e2, e2', w2⟩ := h2.tup_inv gh
      refine .inr (.inr (.inr ⟨a, b, xs, ys, rfl, rfl, e1, e2, ?_, fun z => ?_, fun _ z => ?_, fun _ _ p hp => k _ _ _ (VPst.newT gh (w1.append w2) (fun p hp => hp) n hp)⟩))
      · rw [w1.length, w2.length]; exact line ▸ c
      · subst z
        have z1 : ex = [] := List.eq_nil_of_length_eq_zero w1.length.symm
        subst z1
        cases w1
        exact k _ G H (VPst.same gh h2 (by simp) (by simpa using n))
      · subst z
        have z1 : ey = [] := List.eq_nil_of_length_eq_zero w2.length.symm
        subst z1
        cases w2
        have h1' : Owns K mg G H [.ref a] [.tup (ex ++ [])] f1 := by simpa using h1
        exact k _ G H (VPst.same gh h1' (by simp) (by simpa using n))
    · cases q
  · cases q
theorem opr_add {X : Cx} : OpR X (binaryOp .Add) (rAddA X.K) := op_add.or (op_add_str.or (op_cat.or op_catA))
/-! equality -/
def dEqB (d e : D) : Option Bool := match d, e with
  | .v x, .v y => if scal x y then some (decide (x = y)) else none
  | d, e => match py d, py e with
    | some p, some q => if SeqAt.shaped p && SeqAt.shaped q then some (PyData.eqv p q) else none
    | _, _ => none
def dEq (d e : D) : Option D := (dEqB d e).map fun b => .v (.bl b)
def dNe (d e : D) : Option D := (dEqB d e).map fun b => .v (.bl (!b))
theorem opd_eq : OpD K mg (fun x y H Q => rEq x y H Q ∨ rEqD K x y H Q) dEq := by
  intro G H x y d e d' f Q gh h n q k
  obtain ⟨f1, f2, rfl, h1, h2⟩ := h.two
  unfold dEq dEqB at q
  split at q
  · split at q
    · rename_i c
      cases q
      obtain ⟨rfl, rfl⟩ := h1.v_inv
      obtain ⟨rfl, rfl⟩ := h2.v_inv
      exact .inl ⟨c, k _ G H (VPst.val gh)⟩
    · cases q
  · split at q
    · rename_i p r e1 e2
      split at q
      · rename_i c
        cases q
        rw [Bool.and_eq_true] at c
        exact .inr ⟨p, r, h1.dp1 gh e1, h2.dp1 gh e2, c.1, c.2, k _ G H (VPst.val gh)⟩
      · cases q
    · cases q
theorem opd_ne : OpD K mg (fun x y H Q => rNe x y H Q ∨ rNeD K x y H Q) dNe := by
  intro G H x y d e d' f Q gh h n q k
  obtain ⟨f1, f2, rfl, h1, h2⟩ := h.two
  unfold dNe dEqB at q
  split at q
  · split at q
    · rename_i c
      cases q
      obtain ⟨rfl, rfl⟩ := h1.v_inv
      obtain ⟨rfl, rfl⟩ := h2.v_inv
      exact .inl ⟨c, k _ G H (VPst.val gh)⟩
    · cases q
  · split at q
    · rename_i p r e1 e2
      split at q
      · rename_i c
        cases q
        rw [Bool.and_eq_true] at c
        exact .inr ⟨p, r, h1.dp1 gh e1, h2.dp1 gh e2, c.1, c.2, k _ G H (VPst.val gh)⟩
      · cases q
    · cases q
end
section
variable {X : Cx} {a b : Expr} {pos : Pos} {ma mb : ME}
theorem xe_add (ha : XE X a ma) (hb : XE X b mb) : XE X (.BinOp a .Add b pos) (mOp dAdd ma mb) := xe_op opr_add opd_add ha hb
theorem xe_sub (ha : XE X a ma) (hb : XE X b mb) : XE X (.BinOp a .Sub b pos) (mOp dSub ma mb) := xe_op op_sub opd_int ha hb
theorem xe_mul (ha : XE X a ma) (hb : XE X b mb) : XE X (.BinOp a .Mult b pos) (mOp dMul ma mb) := xe_op (op_mul.or op_mulW) opd_mul ha hb
theorem xe_fdiv (ha : XE X a ma) (hb : XE X b mb) : XE X (.BinOp a .FloorDiv b pos) (mOp dFdiv ma mb) := xe_op op_fdivW (opd_intC fun i j h => show 0 < j ∧ j.natAbs.log2 < 9000 from of_decide_eq_true h) ha hb
theorem xe_mod (ha : XE X a ma) (hb : XE X b mb) : XE X (.BinOp a .Mod b pos) (mOp dMod ma mb) := xe_op op_mod (opd_intC fun _ _ h => of_decide_eq_true h) ha hb
theorem xe_pow (ha : XE X a ma) (hb : XE X b mb) : XE X (.BinOp a .Pow b pos) (mOp dPow ma mb) := xe_op op_pow (opd_intC fun i j h => show 0 ≤ j ∧ j ≤ 1000000 ∧ i.natAbs < 2 ^ 64 from of_decide_eq_true h) ha hb
theorem xe_shr (ha : XE X a ma) (hb : XE X b mb) : XE X (.BinOp a .RShift b pos) (mOp dShr ma mb) := xe_op op_shr (opd_intC fun _ _ h => of_decide_eq_true h) ha hb
def dLt : D → D → Option D := dInt2 fun i j => .bl (decide (i < j))
def dLe : D → D → Option D := dInt2 fun i j => .bl (decide (i ≤ j))
def dGt : D → D → Option D := dInt2 fun i j => .bl (decide (j < i))
def dGe : D → D → Option D := dInt2 fun i j => .bl (decide (j ≤ i))
theorem xe_eq (hu : X.A.units + 64 < cLine) (ha : XE X a ma) (hb : XE X b mb) : XE X (.Compare a [.Eq] [b] pos) (mOp dEq ma mb) := xe_cmp (op_eq.or (op_eqD hu)) opd_eq ha hb (nomark _)
theorem xt_lt (ha : XE X a ma) (hb : XE X b mb) : XT X (.Compare a [.Lt] [b] pos) (mTst (mOp dLt ma mb)) := xt_cmp op_lt opd_int ha hb (nomark _)
theorem xt_le (ha : XE X a ma) (hb : XE X b mb) : XT X (.Compare a [.LtE] [b] pos) (mTst (mOp dLe ma mb)) := xt_cmp op_le opd_int ha hb (nomark _)
theorem xt_gt (ha : XE X a ma) (hb : XE X b mb) : XT X (.Compare a [.Gt] [b] pos) (mTst (mOp dGt ma mb)) := xt_cmp op_gt opd_int ha hb (nomark _)
theorem xt_ge (ha : XE X a ma) (hb : XE X b mb) : XT X (.Compare a [.GtE] [b] pos) (mTst (mOp dGe ma mb)) := xt_cmp op_ge opd_int ha hb (nomark _)
theorem xt_eq (hu : X.A.units + 64 < cLine) (ha : XE X a ma) (hb : XE X b mb) : XT X (.Compare a [.Eq] [b] pos) (mTst (mOp dEq ma mb)) := xt_cmp (op_eq.or (op_eqD hu)) opd_eq ha hb (nomark _)
theorem xt_ne (hu : X.A.units + 64 < cLine) (ha : XE X a ma) (hb : XE X b mb) : XT X (.Compare a [.NotEq] [b] pos) (mTst (mOp dNe ma mb)) := xt_cmp (op_ne.or (op_neD hu)) opd_ne ha hb (nomark _)
end
end Z
namespace Z
open PySem PySem.Spec L2
section
variable {K : KW} {mg : Str → Option Value} {f f1 f2 : List Addr} {G H G1 H1 G2 H2 : Hp} {σ : L2.St} {ds ds1 ds2 : DS} {vs ws : List V} {es es2 : List D} {x y : V} {d e : D} {X : Cx} {Q : VK}
/-! ### arguments, displays -/
def mNil : MA := fun ds => some ([], ds)
def mCons (m : ME) (r : MA) : MA := fun ds => match m ds with
  | some (d, ds1) => match r ds1 with
    | some (es, ds2) => some (d :: es, ds2)
    | none => none
  | none => none
theorem ta_nil {Q : List V → Hp → Prop} (h : ta K mg mNil σ H Q) : tNil σ H Q := by
  obtain ⟨G, ds, f, es, ds', g, o, n, e, k⟩ := h
  cases e
  exact k [] G H (Pst.refl g o n)
theorem ta_cons {m : ME} {r : MA} {Q : List V → Hp → Prop} (h : ta K mg (mCons m r) σ H Q) : tCons (tm K mg m) (ta K mg r) σ H Q := by
  obtain ⟨G, ds, f, es, ds', g, o, n, e, k⟩ := h
  unfold mCons at e
  split at e
  · rename_i d ds1 e1
    split at e
    · rename_i es1 ds2 e2
      cases e
      refine ⟨G, ds, f, d, ds1, g, o, n, e1, fun v G1 H1 p1 => ?_⟩
      obtain ⟨f1, f2, x1, o1, q1, n1⟩ := p1
      exact ⟨G1, ds1, f1, es1, _, x1.gh, o1, (List.nodup_append.mp n1).1, e2, fun vs G2 H2 p2 => k _ _ _ (Pst.and x1 o1 q1 n1 p2)⟩
    · cases e
  · cases e
theorem xa_nil : XA X [] mNil := PA.mono pa_nil fun _ _ _ h => ta_nil h
theorem xa_cons {e : Expr} {es : List Expr} {m : ME} {r : MA} (ha : XE X e m) (hr : XA X es r) (hs : starEach (e :: es) X.env = (false, eval e X.env) :: starEach es X.env := by rfl) : XA X (e :: es) (mCons m r) :=
  PA.mono (pa_cons ha hr hs) fun _ _ _ h => ta_cons h
/-- of some values one: by what is asked of the values alone -/
def CallD (K : KW) (mg : Str → Option Value) (r : List V → Hp → VK → Prop) (g : List D → Option D) : Prop := ∀ (G H : Hp) (xs : List V) (es : List D) (d' : D) (f : List Addr) (Q : VK), Same G H → Owns K mg G H xs es f → f.Nodup → g es = some d' →
  (∀ v G' H', VPst K mg f G H [v] [d'] G' H' → Q v H') → r xs H Q
def mFn (g : List D → Option D) (m : MA) : ME := fun ds => match m ds with
  | some (es, ds1) => match g es with
    | some d => some (d, ds1)
    | none => none
  | none => none
theorem tm_fn {r : List V → Hp → VK → Prop} {g : List D → Option D} {m : MA} (hg : CallD K mg r g) (h : tm K mg (mFn g m) σ H Q) : ta K mg m σ H fun xs H1 => r xs H1 Q := by
  obtain ⟨G, ds, f, d, ds', gh, o, n, e, k⟩ := h
  unfold mFn at e
  split at e
  · rename_i es ds1 e1
    split at e
    · rename_i d1 e2
      cases e
      refine ⟨G, ds, f, es, _, gh, o, n, e1, fun vs G1 H1 p1 => ?_⟩
      obtain ⟨f1, f2, x1, o1, q1, n1⟩ := p1
      exact hg G1 H1 vs es d f2 Q x1.gh q1 (List.nodup_append.mp n1).2.1 e2 fun v G' H' p => k v G' H' (Pst.map x1 o1 n1 p)
    · cases e
  · cases e
def dTup (es : List D) : Option D := if es.length ≤ 100000 then some (.tup es) else none
def dLst (es : List D) : Option D := if es.length ≤ 100000 then some (.lst .own es) else none
theorem sz {n : Nat} (h : n ≤ 100000) : n ≤ sizeLine := by rw [sizeLine_eq]; omega
theorem calld_tup : CallD K mg (fun xs H Q => xs.length ≤ sizeLine ∧ ∀ p, H p = none → Q (.ref p) (upd H p (.tup xs))) dTup := by
  intro G H xs es d' f Q gh h n e k
  unfold dTup at e
  split at e
  · rename_i c
    cases e
    exact ⟨by rw [h.length]; exact sz c, fun p hp => k _ _ _ (VPst.newT gh h (fun _ q => q) n hp)⟩
  · cases e
theorem calld_lst : CallD K mg (fun xs H Q => xs.length ≤ sizeLine ∧ ∀ p, H p = none → Q (.ref p) (upd H p (.lst xs))) dLst := by
  intro G H xs es d' f Q gh h n e k
  unfold dLst at e
  split at e
  · rename_i c
    cases e
    exact ⟨by rw [h.length]; exact sz c, fun p hp => k _ _ _ (VPst.newL gh h (fun _ q => q) n hp)⟩
  · cases e
theorem xe_tup {es : List Expr} {x1} {pos : Pos} {m : MA} (h : XA X es m) : XE X (.Tuple es x1 pos) (mFn dTup m) := PE.mono (pe_tup h) fun _ _ _ q => tm_fn calld_tup q
theorem xe_lst {es : List Expr} {pos : Pos} {m : MA} (h : XA X es m) : XE X (.List es pos) (mFn dLst m) := PE.mono (pe_lst h) fun _ _ _ q => tm_fn calld_lst q
theorem xe_callB {r : List V → Hp → VK → Prop} {g : List D → Option D} {id : String} {nm : Str} {p pos : Pos} {e : Expr} {es : List Expr} {m : MA} (hc : CallR X (.builtin id) r) (hd : CallD X.kw X.mg r g) (hg : Gl X nm) (hm : X.mg nm = none) (hv : bootBuiltins nm = some (.builtin id)) (ha : XA X (e :: es) m) (hn : nm ≠ "__name__" := by decide) (hdb : (nm == ("__debug__" : Str)) = false := by decide) (he : starEach (e :: es) X.env = (false, eval e X.env) :: starEach es X.env := by rfl) (hpl : (backTo pos (starEach es X.env)).any (·.1) = false := by rfl) : XE X (.Call (.Name nm p) (e :: es) [] pos) (mFn g m) :=
  PE.mono (pe_callB hc hg hm hv ha hn hdb he hpl) fun _ _ _ q => tm_fn hd q
theorem xe_callTy {r : List V → Hp → VK → Prop} {g : List D → Option D} {T : String} {nm : Str} {p pos : Pos} {e : Expr} {es : List Expr} {m : MA} (hc : CallR X (.type T) r) (hd : CallD X.kw X.mg r g) (hg : Gl X nm) (hm : X.mg nm = none) (hv : bootBuiltins nm = some (.type T)) (ha : XA X (e :: es) m) (hn : nm ≠ "__name__" := by decide) (hdb : (nm == ("__debug__" : Str)) = false := by decide) (he : starEach (e :: es) X.env = (false, eval e X.env) :: starEach es X.env := by rfl) (hpl : (backTo pos (starEach es X.env)).any (·.1) = false := by rfl) : XE X (.Call (.Name nm p) (e :: es) [] pos) (mFn g m) :=
  PE.mono (pe_callTy hc hg hm hv ha hn hdb he hpl) fun _ _ _ q => tm_fn hd q
/-! len, tuple, list, isinstance -/
def dLen : List D → Option D
  | [.lst _ es] => some (.v (.int es.length))
  | [.tup es] => some (.v (.int es.length))
  | [.ktp es] => some (.v (.int es.length))
  | [.v (.str z)] => if z.length ≤ 16777216 then some (.v (.int z.length)) else none
  | _ => none
theorem calld_len : CallD K mg (fun xs H Q => (∃ p ys, xs = [.ref p] ∧ (SqL K H p ys ∨ SqT K H p ys) ∧ Q (.int ys.length) H) ∨ ∃ z, xs = [.str z] ∧ z.length ≤ sizeLine ∧ Q (.int z.length) H) dLen := by
  intro G H xs es d' f Q gh h n e k
  unfold dLen at e
  split at e
  · cases e
    cases xs with
    | nil => cases h
    | cons x xs =>
      obtain ⟨f1, f2, rfl, h1, h2⟩ := h.cons_inv
      cases h2
      obtain ⟨a, ys, f', rfl, e1, w, _, _⟩ := h1.lst_inv gh
      refine .inl ⟨a, ys, rfl, .inl e1, ?_⟩
      rw [w.length]; exact k _ G H (VPst.val gh)
  · cases e
    cases xs with
    | nil => cases h
    | cons x xs =>
      obtain ⟨f1, f2, rfl, h1, h2⟩ := h.cons_inv
      cases h2
      obtain ⟨a, ys, rfl, e1, _, w⟩ := h1.tup_inv gh
      refine .inl ⟨a, ys, rfl, .inr e1, ?_⟩
      rw [w.length]; exact k _ G H (VPst.val gh)
  · cases e
    cases xs with
    | nil => cases h
    | cons x xs =>
      obtain ⟨f1, f2, rfl, h1, h2⟩ := h.cons_inv
      cases h2
      obtain ⟨a, ys, rfl, e1, _, w⟩ := h1.ktp_inv gh
      refine .inl ⟨a, ys, rfl, .inr e1, ?_⟩
      rw [w.length]; exact k _ G H (VPst.val gh)
  · split at e
    · rename_i c
      cases e
      cases xs with
      | nil => cases h
      | cons x xs =>
        obtain ⟨f1, f2, rfl, h1, h2⟩ := h.cons_inv
        cases h2
        obtain ⟨rfl, rfl⟩ := h1.v_inv
        exact .inr ⟨_, rfl, line ▸ c, k _ G H (VPst.val gh)⟩
    · cases e
  · cases e
theorem callr_len : CallR X (.builtin "len") (fun xs H Q => (∃ p ys, xs = [.ref p] ∧ (SqL X.K H p ys ∨ SqT X.K H p ys) ∧ Q (.int ys.length) H) ∨ ∃ z, xs = [.str z] ∧ z.length ≤ sizeLine ∧ Q (.int z.length) H) := call_len_seq.or call_len_str
/-- tuple(x), list(x): of clean items -/
def dTuple : List D → Option D
  | [.lst _ es] => if cleans es then some (.tup es) else none
  | [.tup es] => some (.tup es)
  | _ => none
def dList : List D → Option D
  | [.lst _ es] => if cleans es then some (.lst .own es) else none
  | [.tup es] => if cleans es then some (.lst .own es) else none
  | _ => none
/-! isinstance of a built-in class, written -/
def tyOf : D → Option String
  | .v .non => some "NoneType"
  | .v (.bl _) => some "bool"
  | .v (.int _) => some "int"
  | .v (.str _) => some "str"
  | .tup _ => some "tuple"
  | .lst _ _ => some "list"
  | .dic _ _ _ => some "dict"
  | .dit _ _ _ => some "dict"
  | _ => none
def dIsi : List D → Option D
  | [d, .v (.ty T)] => match tyOf d with
    | some t => (kitB t T).map fun b => .v (.bl b)
    | none => none
  | _ => none
end
section
variable {K : KW} {mg : Str → Option Value} {f f1 f2 : List Addr} {G H G1 H1 G2 H2 : Hp} {σ : L2.St} {ds ds1 ds2 : DS} {vs ws : List V} {es es2 : List D} {x y : V} {d e : D} {X : Cx} {Q : VK}
/-! ### an item -/
def dIx : D → D → Option D
  | .lst _ es, .v (.int i) => atI es i
  | .tup es, .v (.int i) => atI es i
  | .ktp es, .v (.int i) => atI es i
  | .v (.str z), .v (.int i) => if z.length ≤ 16777216 then (atI z.cps.toList i).map fun c => .v (.str ⟨#[c]⟩) else none
  | _, _ => none
theorem Owns.atI (h : Owns K mg G H vs es f) {i : Int} {d : D} (e : L2.atI es i = some d) : ∃ v f', L2.atI vs i = some v ∧ Owns K mg G H [v] [d] f' ∧ (∀ p ∈ f', p ∈ f) ∧ (f.Nodup → f'.Nodup) := by
  unfold L2.atI at e ⊢
  rw [h.length]
  cases hi : ixN es.length i with
  | none => rw [hi] at e; cases e
  | some j =>
    rw [hi] at e
    exact h.item e
theorem opd_ix : OpD K mg (rIx K) dIx := by
  intro G H x y d e d' f Q gh h n q k
  obtain ⟨f1, f2, rfl, h1, h2⟩ := h.two
  have nn := List.nodup_append.mp n
  unfold dIx at q
  split at q
  · obtain ⟨rfl, rfl⟩ := h2.v_inv
    obtain ⟨a, xs, f', rfl, e1, w, s1, m1⟩ := h1.lst_inv gh
    obtain ⟨v, f3, hv, w3, s3, m3⟩ := w.atI q
    exact .inl ⟨a, xs, _, v, rfl, rfl, e1, hv, k _ G H (VPst.same gh w3 (fun p hp => List.mem_append_left _ (s1 p (s3 p hp))) (m3 (m1 nn.1)))⟩
  · obtain ⟨rfl, rfl⟩ := h2.v_inv
    obtain ⟨a, xs, rfl, e1, _, w⟩ := h1.tup_inv gh
    obtain ⟨v, f3, hv, w3, s3, m3⟩ := w.atI q
    exact .inr (.inl ⟨a, xs, _, v, rfl, rfl, e1, hv, k _ G H (VPst.same gh w3 (fun p hp => List.mem_append_left _ (s3 p hp)) (m3 nn.1))⟩)
  · obtain ⟨rfl, rfl⟩ := h2.v_inv
    obtain ⟨a, xs, rfl, e1, _, w⟩ := h1.ktp_inv gh
    obtain ⟨v, f3, hv, w3, s3, m3⟩ := w.atI q
    exact .inr (.inl ⟨a, xs, _, v, rfl, rfl, e1, hv, k _ G H (VPst.same gh w3 (fun p hp => List.mem_append_left _ (s3 p hp)) (m3 nn.1))⟩)
  · rename_i z i
    split at q
    · rename_i c
      obtain ⟨rfl, rfl⟩ := h1.v_inv
      obtain ⟨rfl, rfl⟩ := h2.v_inv
      cases hc : L2.atI z.cps.toList i with
      | none => rw [hc] at q; cases q
      | some u => rw [hc] at q; cases q; exact .inr (.inr ⟨_, _, u, rfl, rfl, line ▸ c, hc, k _ G H (VPst.val gh)⟩)
    · cases q
  · cases q
theorem xe_ix {a b : Expr} {pos : Pos} {ma mb : ME} (ha : XE X a ma) (hb : XE X b mb) (hs : PlainIx b := by intro _ _; rfl) : XE X (.Subscript a b pos) (mOp dIx ma mb) := PE.mono (pe_ix ix_seq ha hb hs) fun _ _ _ h => tm_op opd_ix h
/-- of what slot i holds, which stays as it is: a clean answer -/
def mLook (i : Nat) (g : D → D → Option D) (mb : ME) : ME := fun ds => match ds[i]? with
  | some (some _) => match mb ds with
    | some (e, ds1) => match ds1[i]? with
      | some (some d) => match g d e with
        | some d' => if clean d' && clean e then some (d', ds1) else none
        | none => none
      | _ => none
    | none => none
  | _ => none
/-- what a reading of a slot's value and another's clean value gives leaves all as it is -/
def LookD (K : KW) (mg : Str → Option Value) (r : R2) (g : D → D → Option D) : Prop := ∀ (G H : Hp) (x y : V) (d e d' : D) (f : List Addr) (Q : VK), Same G H → Owns K mg G H [x] [d] f → Owns K mg G H [y] [e] [] → g d e = some d' → clean d' = true →
  (∀ v G' H', Ext [] G H [] G' H' → Owns K mg G' H' [v] [d'] [] → Q v H') → r x y H Q
theorem Pst.put (x : Ext f G H (f1 ++ f2) G1 H1) (o1 : OwnS K mg G1 H1 σ ds1 f1) (n : (f1 ++ f2).Nodup) (y : Ext [] G1 H1 [] G2 H2) (q : Owns K mg G2 H2 ws es2 []) : Pst K mg f G H σ ds1 ws es2 G2 H2 := by
  refine Pst.map (f1 := f1) (f2 := f2) x o1 n ⟨[], ?_, q, List.nodup_nil⟩
  exact ⟨y.gh, y.gg, fun p o e h => y.keep p o e (by simp), fun p h => (nomatch h), fun p o g h e => y.gn p o g (by simp) e⟩
theorem tm_look {i : Nat} {r : R2} {g : D → D → Option D} {mb : ME} (hg : LookD K mg r g) (h : tm K mg (mLook i g mb) σ H Q) : tOp r (tVar i) (tm K mg mb) σ H Q := by
  obtain ⟨G, ds, f, d, ds', gh, o, n, e, k⟩ := h
  unfold mLook at e
  split at e
  · rename_i d9 h9
    obtain ⟨v, _, _, _, _, hv, _, _⟩ := o.split h9
    split at e
    · rename_i e0 ds1 e1
      split at e
      · rename_i d0 hi
        split at e
        · rename_i d1 e2
          split at e
          · rename_i c
            cases e
            rw [Bool.and_eq_true] at c
            refine ⟨v, hv, G, ds, f, e0, _, gh, o, n, e1, fun y G1 H1 p1 => ?_⟩
            obtain ⟨f1, f2, x1, o1, q1, n1⟩ := p1
            obtain ⟨v', fa, fb, fc, rfl, hv', ho, kk⟩ := o1.split hi
            rw [hv] at hv'
            cases hv'
            have := q1.clean (clean_sing c.2)
            subst this
            exact hg G1 H1 v y d0 e0 _ fb Q x1.gh ho q1 e2 c.1 fun w G' H' y' q' => k w G' H' (Pst.put x1 o1 n1 y' q')
          · cases e
        · cases e
      · cases e
    · cases e
  · cases e
theorem lookd_ix : LookD K mg (rIx K) dIx := by
  intro G H x y d e d' f Q gh h1 h2 q c k
  unfold dIx at q
  split at q
  · obtain ⟨rfl, _⟩ := h2.v_inv
    obtain ⟨a, xs, f', rfl, e1, w, s1, m1⟩ := h1.lst_inv gh
    obtain ⟨v, f3, hv, w3, s3, m3⟩ := w.atI q
    have := w3.clean (clean_sing c)
    subst this
    exact .inl ⟨a, xs, _, v, rfl, rfl, e1, hv, k _ G H (Ext.refl gh []) w3⟩
  · obtain ⟨rfl, _⟩ := h2.v_inv
    obtain ⟨a, xs, rfl, e1, _, w⟩ := h1.tup_inv gh
    obtain ⟨v, f3, hv, w3, s3, m3⟩ := w.atI q
    have := w3.clean (clean_sing c)
    subst this
    exact .inr (.inl ⟨a, xs, _, v, rfl, rfl, e1, hv, k _ G H (Ext.refl gh []) w3⟩)
  · obtain ⟨rfl, _⟩ := h2.v_inv
    obtain ⟨a, xs, rfl, e1, _, w⟩ := h1.ktp_inv gh
    obtain ⟨v, f3, hv, w3, s3, m3⟩ := w.atI q
    have := w3.clean (clean_sing c)
    subst this
    exact .inr (.inl ⟨a, xs, _, v, rfl, rfl, e1, hv, k _ G H (Ext.refl gh []) w3⟩)
  · rename_i z i
    split at q
    · rename_i cc
      obtain ⟨rfl, _⟩ := h1.v_inv
      obtain ⟨rfl, _⟩ := h2.v_inv
      cases hc : L2.atI z.cps.toList i with
      | none => rw [hc] at q; cases q
      | some u => rw [hc] at q; cases q; exact .inr (.inr ⟨_, _, u, rfl, rfl, line ▸ cc, hc, k _ G H (Ext.refl gh []) (.v .nil)⟩)
    · cases q
  · cases q
/-- x[b], x the name in slot i -/
theorem xe_ixv (i : Nat) {nm : Str} {p : Pos} {b : Expr} {pos : Pos} {mb : ME} (hb : XE X b mb) (hN : X.N[i]? = some nm := by rfl) (hv : Vis X.env.scope nm := by first | exact Or.inl rfl | exact Or.inr (Or.inl rfl) | exact Or.inr (Or.inr rfl)) (hd : (nm == ("__debug__" : Str)) = false := by decide) (hcd : (nm == ("__classdict__" : Str)) = false := by decide) (hs : PlainIx b := by intro _ _; rfl) : XE X (.Subscript (.Name nm p) b pos) (mLook i dIx mb) :=
  PE.mono (pe_ix ix_seq (pe_var hN hv hd hcd) hb hs) fun _ _ _ h => tm_look lookd_ix h
/-! ### statements -/
theorem Pst.ends {E : Ends} {σ' : L2.St} {out : Out} (x : Ext f G H (f1 ++ []) G1 H1) (p : PostO K mg E f G H σ' out) : PostO K mg E f1 G1 H1 σ' out := by
  cases out with
  | nx ds => exact fun G' H' q => p G' H' (Pst.nil_trans x q)
  | bk ds => exact fun G' H' q => p G' H' (Pst.nil_trans x q)
  | ct ds => exact fun G' H' q => p G' H' (Pst.nil_trans x q)
  | rt d ds => exact fun v G' H' q => p v G' H' (Pst.nil_trans x q)
theorem PostO.mono {E E' : Ends} {σ' : L2.St} {out : Out} (hn : E.nx = E'.nx) (hr : E.rt = E'.rt) (hb : E.bk = E'.bk) (hc : E.ct = E'.ct) (p : PostO K mg E f G H σ' out) : PostO K mg E' f G H σ' out := by
  cases E; cases E'; cases hn; cases hr; cases hb; cases hc; exact p
def mSkip : MS := fun ds => some (.nx ds)
def mSeq (a b : MS) : MS := fun ds => match a ds with
  | some (.nx ds1) => b ds1
  | r => r
def mIf (t : MT) (a b : MS) : MS := fun ds => match t ds with
  | some (true, ds1) => a ds1
  | some (false, ds1) => b ds1
  | none => none
def setSlot (i : Nat) (d : D) (ds : DS) : Option DS := if i < ds.length then some (ds.set i (some d)) else none
def mAsg (i : Nat) (m : ME) : MS := fun ds => match m ds with
  | some (d, ds1) => (setSlot i d ds1).map .nx
  | none => none
def mRet (m : ME) : MS := fun ds => match m ds with
  | some (d, ds1) => some (.rt d ds1)
  | none => none
def mDrop (m : ME) : MS := fun ds => match m ds with
  | some (_, ds1) => some (.nx ds1)
  | none => none
def mBrk : MS := fun ds => some (.bk ds)
def mCnt : MS := fun ds => some (.ct ds)
variable {fx : Nat → Bool} {E : Ends}
theorem ts_skip (h : ts K mg fx mSkip E σ H) : tNext E σ H := by
  obtain ⟨G, ds, f, out, g, o, n, e, k⟩ := h
  cases e
  exact k σ (FixS.refl _ _) G H (Pst.refl g o n)
theorem ts_seq {a b : MS} (h : ts K mg fx (mSeq a b) E σ H) : tSeq (ts K mg fx a) (ts K mg fx b) E σ H := by
  obtain ⟨G, ds, f, out, g, o, n, e, k⟩ := h
  unfold mSeq at e
  split at e
  · rename_i ds1 e1
    refine ⟨G, ds, f, _, g, o, n, e1, fun σ1 s1 G1 H1 p1 => ?_⟩
    obtain ⟨f1, f2, x1, o1, q1, n1⟩ := p1
    cases q1
    exact ⟨G1, ds1, f1, out, x1.gh, o1, (List.nodup_append.mp n1).1, e, fun σ2 s2 => Pst.ends x1 (k σ2 (s1.trans s2))⟩
  · rename_i hne
    refine ⟨G, ds, f, out, g, o, n, e, fun σ1 s1 => ?_⟩
    have := k σ1 s1
    cases out with
    | nx ds1 => exact absurd e (hne ds1)
    | bk ds1 => exact this
    | ct ds1 => exact this
    | rt d ds1 => exact this
theorem ts_if {t : MT} {a b : MS} (h : ts K mg fx (mIf t a b) E σ H) : tIfS (tt K mg t) (ts K mg fx a) (ts K mg fx b) E σ H := by
  obtain ⟨G, ds, f, out, g, o, n, e, k⟩ := h
  unfold mIf at e
  split at e
  · rename_i ds1 e1
    refine ⟨G, ds, f, true, ds1, g, o, n, e1, fun G1 H1 p1 => ?_⟩
    obtain ⟨f1, f2, x1, o1, q1, n1⟩ := p1
    cases q1
    show ts K mg fx a E σ H1
    exact ⟨G1, ds1, f1, out, x1.gh, o1, (List.nodup_append.mp n1).1, e, fun σ2 s2 => Pst.ends x1 (k σ2 s2)⟩
  · rename_i ds1 e1
    refine ⟨G, ds, f, false, ds1, g, o, n, e1, fun G1 H1 p1 => ?_⟩
    obtain ⟨f1, f2, x1, o1, q1, n1⟩ := p1
    cases q1
    show ts K mg fx b E σ H1
    exact ⟨G1, ds1, f1, out, x1.gh, o1, (List.nodup_append.mp n1).1, e, fun σ2 s2 => Pst.ends x1 (k σ2 s2)⟩
  · cases e
theorem Pst.bind {i : Nat} {v : V} (p : Pst K mg f G H σ ds [v] [d] G1 H1) {ds2 : DS} (e : setSlot i d ds = some ds2) : Pst K mg f G H (σ.set i (some v)) ds2 [] [] G1 H1 := by
  obtain ⟨f1, f2, x1, o1, q1, n1⟩ := p
  unfold setSlot at e
  split at e
  · rename_i hi
    cases e
    obtain ⟨fa, fb, fc, rfl, kk⟩ := o1.bind hi
    refine ⟨fa ++ f2 ++ fc, [], x1.less ?_, kk v d f2 q1, .nil, ?_⟩
    · intro p hp; simp only [List.mem_append, List.append_nil] at hp ⊢; rcases hp with (h | h) | h <;> simp [h]
    · simp only [List.append_nil, List.nodup_append, List.mem_append] at n1 ⊢
      exact ⟨⟨n1.1.1.1, n1.2.1, fun a ha b hb => n1.2.2 a (.inl (.inl ha)) b hb⟩, n1.1.2.1, fun a ha b hb => by
        rcases ha with ha | ha
        · exact n1.1.2.2 a (.inl ha) b hb
        · exact fun z => n1.2.2 b (.inr hb) a ha z.symm⟩
  · cases e
theorem ts_asg {i : Nat} {m : ME} (hf : fx i = false) (h : ts K mg fx (mAsg i m) E σ H) : tAsg (tm K mg m) (gName i) E σ H := by
  obtain ⟨G, ds, f, out, g, o, n, e, k⟩ := h
  unfold mAsg at e
  split at e
  · rename_i d ds1 e1
    cases hs : setSlot i d ds1 with
    | none => rw [hs] at e; cases e
    | some ds2 =>
      rw [hs] at e; cases e
      exact ⟨G, ds, f, d, ds1, g, o, n, e1, fun v G1 H1 p1 => k _ (FixS.set σ _ hf) G1 H1 (p1.bind hs)⟩
  · cases e
theorem ts_ret {m : ME} (h : ts K mg fx (mRet m) E σ H) : tRet (tm K mg m) E σ H := by
  obtain ⟨G, ds, f, out, g, o, n, e, k⟩ := h
  unfold mRet at e
  split at e
  · rename_i d ds1 e1
    cases e
    exact ⟨G, ds, f, d, ds1, g, o, n, e1, fun v G1 H1 p1 => k σ (FixS.refl _ _) v G1 H1 p1⟩
  · cases e
theorem ts_drop {m : ME} (h : ts K mg fx (mDrop m) E σ H) : tDrop (tm K mg m) E σ H := by
  obtain ⟨G, ds, f, out, g, o, n, e, k⟩ := h
  unfold mDrop at e
  split at e
  · rename_i d ds1 e1
    cases e
    refine ⟨G, ds, f, d, ds1, g, o, n, e1, fun v G1 H1 p1 => k σ (FixS.refl _ _) G1 H1 ?_⟩
    obtain ⟨f1, f2, x1, o1, q1, n1⟩ := p1
    exact ⟨f1, [], x1.less (by simp; intro p h; exact .inl h), o1, .nil, by simpa using (List.nodup_append.mp n1).1⟩
  · cases e
variable {st : Stmt} {rest sa sb : List Stmt} {a b : MS} {pos : Pos} {ex : Expr} {m : ME} {t : MT}
theorem xb_nil : XB X fx [] mSkip := PSs.mono pss_nil fun _ _ _ h => ts_skip h
theorem xb_cons (h1 : XS X fx st a) (h2 : XB X fx rest b) : XB X fx (st :: rest) (mSeq a b) := PSs.mono (pss_cons h1 h2) fun _ _ _ h => ts_seq h
theorem xb_one (h1 : XS X fx st a) : XB X fx [st] a := pss_one h1
theorem xs_if (hc : XT X ex t) (ha : XB X fx sa a) (hb : XB X fx sb b) : XS X fx (.If ex sa sb pos) (mIf t a b) := PS.mono (ps_if hc ha hb) fun _ _ _ h => ts_if h
theorem xs_ret (he : XE X ex m) : XS X fx (.Return (some ex) pos) (mRet m) := PS.mono (ps_ret he) fun _ _ _ h => ts_ret h
theorem xs_expr (he : XE X ex m) (hs : swapsWith ex none pos.line X.env = pure false := by rfl) : XS X fx (.Expr ex pos) (mDrop m) := PS.mono (ps_expr he hs) fun _ _ _ h => ts_drop h
theorem xs_set (i : Nat) {x : Str} {pos' : Pos} (hN : X.N.Nodup) (he : XE X ex m) (hf : fx i = false := by rfl) (hi : X.N[i]? = some x := by rfl) (hx : Loc X.env.scope x := by first | exact Or.inl rfl | exact Or.inr rfl) (hs : swapsWith ex (some (.Name x pos')) pos.line X.env = pure false := by rfl) (hff : X.fn x = true ∨ X.env.scope.names.lookup x = some .local := by first | exact .inl rfl | exact .inr rfl) : XS X fx (.Assign [.Name x pos'] ex pos) (mAsg i m) :=
  PS.mono (ps_set hN hi hx he hs hff) fun _ _ _ h => ts_asg hf h
end
end Z
namespace Z
open PySem PySem.Spec L2
/-! ### defs -/
def outs (fx : Nat → Bool) : Nat → List D → DS → DS
  | _, [], _ => []
  | i, a :: as, [] => (if fx i then none else if clean a then some a else none) :: outs fx (i + 1) as []
  | i, a :: as, o :: ds => (if fx i then o else if clean a then some a else none) :: outs fx (i + 1) as ds
def fnM (np n : Nat) (fx : Nat → Bool) (m : MS) : List D → Option (D × DS) := fun as =>
  if as.length = np then match m (as.map some ++ List.replicate (n - np) none) with
    | some (.rt d ds) => some (d, outs fx 0 as ds)
    | some (.nx ds) => some (.v .non, outs fx 0 as ds)
    | _ => none
  else none
def spF (K : KW) (mg : Str → Option Value) (np : Nat) (F : List D → Option (D × DS)) : Sp := fun vs H Q _ =>
  vs.length = np ∧ ∃ G as f d os, Same G H ∧ Owns K mg G H vs as f ∧ f.Nodup ∧ F as = some (d, os) ∧ ∀ v G' H', Pst K mg f G H (vs.map some) os [v] [d] G' H' → Q v H'
section
variable {K : KW} {mg : Str → Option Value} {f f1 f2 : List Addr} {G H G1 H1 G2 H2 : Hp} {σ : L2.St} {ds ds1 ds2 : DS} {vs ws : List V} {es es2 : List D} {x y : V} {d e : D}
theorem Owns.slots : ∀ {es : List D} {vs : List V} {f : List Addr}, Owns K mg G H vs es f → ∀ n : Nat, OwnS K mg G H (vs.map some ++ List.replicate n none) (es.map some ++ List.replicate n none) f := by
  intro es
  induction es with
  | nil =>
    intro vs f h n
    cases h
    induction n with
    | zero => exact .nil
    | succ n ih => rw [List.replicate_succ]; exact .no ih
  | cons d es ih =>
    intro vs f h n
    cases vs with
    | nil => cases h
    | cons v vs =>
      obtain ⟨f1, f2, rfl, h1, h2⟩ := h.cons_inv
      exact .yes h1 (ih h2 n)
theorem outs_own {fx : Nat → Bool} : ∀ {as : List D} {i : Nat} {vs : List V} {σ' : L2.St} {ds : DS} {f : List Addr}, OwnS K mg G H σ' ds f → vs.length = as.length → (∀ (j : Nat) (v : V), vs[j]? = some v → fx (i + j) = true → σ'[j]? = some (some v)) → (∀ (j : Nat) (v : V) (a : D), vs[j]? = some v → as[j]? = some a → clean a = true → Owns K mg G H [v] [a] []) →
    ∃ f', (∀ p ∈ f', p ∈ f) ∧ (f.Nodup → f'.Nodup) ∧ OwnS K mg G H (vs.map some) (outs fx i as ds) f' := by
  intro as
  induction as with
  | nil =>
    intro i vs σ' ds f h hl _ _
    cases vs with
    | nil => exact ⟨[], by simp, fun _ => List.nodup_nil, .nil⟩
    | cons v vs => cases hl
  | cons a as ih =>
    intro i vs σ' ds f h hl hs hc
    cases vs with
    | nil => cases hl
    | cons v vs =>
      have hl' : vs.length = as.length := by simpa using hl
      have hc' : ∀ j w b, vs[j]? = some w → as[j]? = some b → clean b = true → Owns K mg G H [w] [b] [] := fun j w b h1 h2 h3 => hc (j + 1) w b (by simpa using h1) (by simpa using h2) h3
      have h0 : fx i = true → σ'[0]? = some (some v) := fun q => hs 0 v rfl (by simpa using q)
      cases h with
      | nil =>
        obtain ⟨f', s1, n1, o1⟩ := ih (i := i + 1) (vs := vs) (ds := []) OwnS.nil hl' (fun j w h1 h2 => by
          have := hs (j + 1) w (by simpa using h1) (by rw [← h2]; congr 1; omega)
          simp at this) hc'
        cases hf : fx i with
        | true =>
          have := h0 hf
          simp at this
        | false =>
          rw [outs, hf]
          cases hca : clean a with
          | true => exact ⟨f', s1, n1, by simpa using OwnS.yes (hc 0 v a rfl rfl hca) o1⟩
          | false => exact ⟨f', s1, n1, by simpa using OwnS.no o1⟩
      | @no o σ' ds f h =>
        obtain ⟨f', s1, n1, o1⟩ := ih (i := i + 1) (vs := vs) h hl' (fun j w h1 h2 => by
          have := hs (j + 1) w (by simpa using h1) (by rw [← h2]; congr 1; omega)
          simpa using this) hc'
        cases hf : fx i with
        | true => rw [outs, hf]; exact ⟨f', s1, n1, by simpa using OwnS.no o1⟩
        | false =>
          rw [outs, hf]
          cases hca : clean a with
          | true => exact ⟨f', s1, n1, by simpa using OwnS.yes (hc 0 v a rfl rfl hca) o1⟩
          | false => exact ⟨f', s1, n1, by simpa using OwnS.no o1⟩
      | @yes v0 d0 σ' ds g1 g2 e0 h =>
        obtain ⟨f', s1, n1, o1⟩ := ih (i := i + 1) (vs := vs) h hl' (fun j w h1 h2 => by
          have := hs (j + 1) w (by simpa using h1) (by rw [← h2]; congr 1; omega)
          simpa using this) hc'
        cases hf : fx i with
        | true =>
          have := h0 hf
          have : v0 = v := by simpa using this
          subst this
          rw [outs, hf]
          refine ⟨g1 ++ f', ?_, fun n => ?_, by simpa using OwnS.yes e0 o1⟩
          · intro p hp
            rcases List.mem_append.mp hp with h | h
            · exact List.mem_append_left _ h
            · exact List.mem_append_right _ (s1 p h)
          · have nn := List.nodup_append.mp n
            rw [List.nodup_append]
            exact ⟨nn.1, n1 nn.2.1, fun a ha b hb => nn.2.2 a ha b (s1 b hb)⟩
        | false =>
          rw [outs, hf]
          have s1' : ∀ p ∈ f', p ∈ g1 ++ g2 := fun p h => List.mem_append_right _ (s1 p h)
          have n1' : (g1 ++ g2).Nodup → f'.Nodup := fun n => n1 (List.nodup_append.mp n).2.1
          cases hca : clean a with
          | true => exact ⟨f', s1', n1', by simpa using OwnS.yes (hc 0 v a rfl rfl hca) o1⟩
          | false => exact ⟨f', s1', n1', by simpa using OwnS.no o1⟩
theorem Owns.at_ {es : List D} {vs : List V} (h : Owns K mg G H vs es f) {j : Nat} {v : V} {a : D} (h1 : vs[j]? = some v) (h2 : es[j]? = some a) (c : Z.clean a = true) : Owns K mg G H [v] [a] [] := by
  obtain ⟨w, f', e1, e2, _, _⟩ := h.item h2
  rw [h1] at e1; cases e1
  have := e2.clean (clean_sing c)
  subst this
  exact e2
theorem start_fix {fx : Nat → Bool} {N : List Str} {vs : List V} {σ' : L2.St} (hx : FixS fx (L2.start N vs) σ') {j : Nat} {v : V} (h : vs[j]? = some v) (hj : fx j = true) : σ'[j]? = some (some v) := by
  rw [hx.2 j hj]
  unfold L2.start
  have hlt : j < vs.length := (List.getElem?_eq_some_iff.mp h).1
  rw [List.getElem?_append_left (by simpa using hlt), List.getElem?_map, h]
  rfl
theorem fn_read {fx : Nat → Bool} {m : MS} {N : List Str} {np : Nat} {Q : VK} {E : XK} (h : spF K mg np (fnM np N.length fx m) vs H Q E) : ts K mg fx m { nx := fun _ H' => Q .non H', rt := Q } (L2.start N vs) H := by
  obtain ⟨hl, G, as, f, d, os, gh, ho, n, e, k⟩ := h
  have hla := ho.length
  unfold fnM at e
  split at e
  · rename_i hn
    have h0 : OwnS K mg G H (L2.start N vs) (as.map some ++ List.replicate (N.length - np) none) f := by
      unfold L2.start
      rw [hl]
      exact ho.slots _
    have key : ∀ σ' ds' G' H' v d', FixS fx (L2.start N vs) σ' → Pst K mg f G H σ' ds' [v] [d'] G' H' → Pst K mg f G H (vs.map some) (outs fx 0 as ds') [v] [d'] G' H' := by
      intro σ' ds' G' H' v d' hx p
      obtain ⟨f1, f2, x1, o1, q1, n1⟩ := p
      obtain ⟨f', s1, m1, o2⟩ := outs_own (fx := fx) (i := 0) (as := as) (vs := vs) o1 hla (fun j w h1 h2 => start_fix hx h1 (by simpa using h2)) (fun j w a h1 h2 c => (ho.at_ h1 h2 c).frame x1.gg fun a ha => by cases ha)
      have nn := List.nodup_append.mp n1
      refine ⟨f', f2, x1.less ?_, o2, q1, ?_⟩
      · intro p hp
        rcases List.mem_append.mp hp with h | h
        · exact List.mem_append_left _ (s1 p h)
        · exact List.mem_append_right _ h
      · rw [List.nodup_append]
        exact ⟨m1 nn.1, nn.2.1, fun a ha b hb => nn.2.2 a (s1 a ha) b hb⟩
    split at e
    · rename_i d0 ds0 e0
      cases e
      exact ⟨G, _, f, _, gh, h0, n, e0, fun σ' hx v G' H' p => k v G' H' (key σ' _ G' H' v _ hx p)⟩
    · rename_i ds0 e0
      cases e
      refine ⟨G, _, f, _, gh, h0, n, e0, fun σ' hx G' H' p => k .non G' H' (key σ' _ G' H' .non (.v .non) hx ?_)⟩
      obtain ⟨f1, f2, x1, o1, q1, n1⟩ := p
      cases q1
      exact ⟨f1, [], x1, o1, .v .nil, n1⟩
    · cases e
  · cases e
end
section
variable {P : Program} {w : World} {K : PySem.W.Frag} {mg : Str → Option Value} {base : Heap}
theorem ok_def {x qual : Str} {st : Stmt} {f : Addr} {fd : FuncData} {N ps : List Str} {k : Nat} {fx : Nat → Bool} {m : MS} (F : Fun K x qual st f fd) (S : FnScope N ps (defScope st))
    (hb : ∀ (cdv : Value) (A : Around) (outer : List Env) (s : Shared) (H : Hp) (E : XK), Room k (A.deeper (PyProof.Rows.envOfC qual (defScope st) s.heap.objs.size f cdv)) → XB (cxOf CX0 P w K mg base N qual (defScope st) f cdv A outer s H E).nox fx (defBody st) m) :
    FnOk P w K mg base CX0 (k + 1) f fd ps (spF ⟨K, w⟩ mg ps.length (fnM ps.length N.length fx m)) :=
  F.ok S (fun vs H Q E h => h.1) fun cdv A outer s H vs Q E hr h => ⟨_, hb cdv A outer s H E hr, fn_read h⟩
structure Def (P : Program) (w : World) (K : PySem.W.Frag) (mg : Str → Option Value) (base : Heap) (k : Nat) (x : Str) (np : Nat) (F : List D → Option (D × DS)) : Prop where
  ex : ∃ f fd ps, mg x = some (.ref f) ∧ PySem.W.keepIn K (.ref f) = true ∧ Binds K fd ps [] ∧ ps.length = np ∧ FnOk P w K mg base CX0 k f fd ps (spF ⟨K, w⟩ mg np F)
end
/-! ### calls: what is handed in by its name comes back -/
inductive Arg where
  | ex (m : ME) | bo (i : Nat)
def tArgs (K : KW) (mg : Str → Option Value) : List Arg → TA
  | [] => tNil
  | .ex m :: r => tCons (tm K mg m) (tArgs K mg r)
  | .bo i :: r => tCons (tVar i) (tArgs K mg r)
def mArgs : List Arg → DS → Option (List (Nat ⊕ D) × DS)
  | [], ds => some ([], ds)
  | .ex m :: r, ds => match m ds with
    | some (d, ds1) => match mArgs r ds1 with
      | some (rs, ds2) => some (.inr d :: rs, ds2)
      | none => none
    | none => none
  | .bo i :: r, ds => match ds[i]? with
    | some (some _) => match mArgs r ds with
      | some (rs, ds2) => some (.inl i :: rs, ds2)
      | none => none
    | _ => none
def take : List (Nat ⊕ D) → DS → Option (List D × DS)
  | [], ds => some ([], ds)
  | .inr d :: r, ds => match take r ds with
    | some (es, ds1) => some (d :: es, ds1)
    | none => none
  | .inl i :: r, ds => match ds[i]? with
    | some (some d) => match take r (if clean d then ds else ds.set i none) with
      | some (es, ds1) => some (d :: es, ds1)
      | none => none
    | _ => none
def put : List (Nat ⊕ D) → List D → DS → DS → DS
  | .inl i :: r, d :: as, o :: os, ds => put r as os (if clean d then ds else ds.set i o)
  | .inr _ :: r, _ :: as, _ :: os, ds => put r as os ds
  | _, _, _, ds => ds
def mCall (F : List D → Option (D × DS)) (args : List Arg) : ME := fun ds => match mArgs args ds with
  | some (rs, ds1) => match take rs ds1 with
    | some (as, ds2) => match F as with
      | some (d, os) => some (d, put rs as os ds2)
      | none => none
    | none => none
  | none => none
section
variable (K : KW) (mg : Str → Option Value) (G H : Hp) (σ : L2.St)
inductive OwnA : List V → List (Nat ⊕ D) → List Addr → Prop
  | nil : OwnA [] [] []
  | ex {v : V} {d : D} {vs : List V} {rs : List (Nat ⊕ D)} {f1 f2 : List Addr} : Owns K mg G H [v] [d] f1 → OwnA vs rs f2 → OwnA (v :: vs) (.inr d :: rs) (f1 ++ f2)
  | bo {v : V} {i : Nat} {vs : List V} {rs : List (Nat ⊕ D)} {f : List Addr} : σ[i]? = some (some v) → OwnA vs rs f → OwnA (v :: vs) (.inl i :: rs) f
end
section
variable {K : KW} {mg : Str → Option Value} {f f1 f2 : List Addr} {G H G1 H1 G2 H2 : Hp} {σ : L2.St} {ds ds1 ds2 : DS} {vs ws : List V} {es es2 : List D} {x y : V} {d e : D} {rs : List (Nat ⊕ D)}
theorem OwnA.frame (h : OwnA K mg G H σ vs rs f) (g : Same G G1) (k : ∀ a ∈ f, (∀ o, H a = some o → H1 a = some o) ∧ G1 a = none) : OwnA K mg G1 H1 σ vs rs f := by
  induction h with
  | nil => exact .nil
  | ex e _ ih => exact .ex (e.frame g fun a h => k a (List.mem_append_left _ h)) (ih fun a h => k a (List.mem_append_right _ h))
  | bo e _ ih => exact .bo e (ih k)
theorem OwnA.here (h : OwnA K mg G H σ vs rs f) : ∀ a ∈ f, (∃ o, H a = some o) ∧ G a = none := by
  induction h with
  | nil => intro a h; cases h
  | ex e _ ih => intro a h; exact (List.mem_append.mp h).elim (e.here a) (ih a)
  | bo _ _ ih => exact ih
theorem OwnA.length (h : OwnA K mg G H σ vs rs f) : vs.length = rs.length := by
  induction h with
  | nil => rfl
  | _ => simp_all
def PstA (K : KW) (mg : Str → Option Value) (f : List Addr) (G H : Hp) (σ : L2.St) (ds : DS) (vs : List V) (rs : List (Nat ⊕ D)) (G' H' : Hp) : Prop :=
  ∃ f1 f2, Ext f G H (f1 ++ f2) G' H' ∧ OwnS K mg G' H' σ ds f1 ∧ OwnA K mg G' H' σ vs rs f2 ∧ (f1 ++ f2).Nodup
theorem args_ok : ∀ (args : List Arg) {G H : Hp} {ds ds1 : DS} {f : List Addr} {rs : List (Nat ⊕ D)} {Q : List V → Hp → Prop}, Same G H → OwnS K mg G H σ ds f → f.Nodup → mArgs args ds = some (rs, ds1) → (∀ vs G' H', PstA K mg f G H σ ds1 vs rs G' H' → Q vs H') → tArgs K mg args σ H Q := by
  intro args
  induction args with
  | nil =>
    intro G H ds ds1 f rs Q g o n e k
    cases e
    exact k [] G H ⟨f, [], by simpa using Ext.refl g f, o, .nil, by simpa using n⟩
  | cons a r ih =>
    intro G H ds ds1 f rs Q g o n e k
    cases a with
    | ex m =>
      rw [mArgs] at e
      split at e
      · rename_i d ds2 e1
        split at e
        · rename_i rs2 ds3 e2
          cases e
          refine ⟨G, ds, f, d, ds2, g, o, n, e1, fun v G1 H1 p1 => ?_⟩
          obtain ⟨f1, f2, x1, o1, q1, n1⟩ := p1
          have nn := List.nodup_append.mp n1
          refine ih x1.gh o1 nn.1 e2 fun vs G2 H2 p2 => k _ G2 H2 ?_
          obtain ⟨g1, g2, y, o2, q2, n2⟩ := p2
          have hh := q1.here
          have nd := nodup_disj n1
          refine ⟨g1, f2 ++ g2, (x1.trans (y.frame f2 hh)).less ?_, o2, .ex (q1.frame y.gg (y.aside hh nd)) q2, ?_⟩
          · intro p hp; simp only [List.mem_append] at hp ⊢; rcases hp with h | h | h <;> simp [h]
          · have ap := y.apart hh nd
            rw [List.nodup_append] at n2 ⊢
            refine ⟨n2.1, ?_, ?_⟩
            · rw [List.nodup_append]
              exact ⟨nn.2.1, n2.2.1, fun a ha b hb e => ap a ha (List.mem_append_right _ (e ▸ hb))⟩
            · intro a ha b hb e
              rcases List.mem_append.mp hb with hb | hb
              · exact ap b hb (List.mem_append_left _ (e ▸ ha))
              · exact n2.2.2 a ha b hb e
        · cases e
      · cases e
    | bo i =>
      rw [mArgs] at e
      split at e
      · rename_i d0 hi
        obtain ⟨v, _, _, _, _, hv, _, _⟩ := o.split hi
        split at e
        · rename_i rs2 ds3 e2
          cases e
          refine ⟨v, hv, ih g o n e2 fun vs G2 H2 p2 => k _ G2 H2 ?_⟩
          obtain ⟨g1, g2, y, o2, q2, n2⟩ := p2
          exact ⟨g1, g2, y, o2, .bo hv q2, n2⟩
        · cases e
      · cases e
theorem take_ok : ∀ {rs : List (Nat ⊕ D)} {vs : List V} {ds : DS} {f1 f2 : List Addr} {as : List D} {ds2 : DS}, OwnS K mg G H σ ds f1 → OwnA K mg G H σ vs rs f2 → (f1 ++ f2).Nodup → take rs ds = some (as, ds2) →
    ∃ f3 f4, OwnS K mg G H σ ds2 f3 ∧ Owns K mg G H vs as f4 ∧ (f3 ++ f4).Nodup ∧ ∀ p ∈ f3 ++ f4, p ∈ f1 ++ f2 := by
  intro rs
  induction rs with
  | nil =>
    intro vs ds f1 f2 as ds2 o a n e
    cases e; cases a
    exact ⟨f1, [], o, .nil, n, fun p h => h⟩
  | cons r rs ih =>
    intro vs ds f1 f2 as ds2 o a n e
    cases a with
    | @ex v d vs rs g1 g2 e1 a =>
      rw [take] at e
      split at e
      · rename_i es ds3 e2
        cases e
        have n' : (f1 ++ g2).Nodup := by
          simp only [List.nodup_append, List.mem_append] at n ⊢
          exact ⟨n.1, n.2.1.2.1, fun a ha b hb => n.2.2 a ha b (.inr hb)⟩
        obtain ⟨f3, f4, o3, o4, n3, s3⟩ := ih o a n' e2
        refine ⟨f3, g1 ++ f4, o3, e1.append o4, ?_, ?_⟩
        · have hd : ∀ p ∈ g1, p ∉ f3 ++ f4 := fun p hp q => by
            have := s3 p q
            simp only [List.nodup_append, List.mem_append] at n this
            rcases this with h | h
            · exact n.2.2 p h p (.inl hp) rfl
            · exact n.2.1.2.2 p hp p h rfl
          have ng : g1.Nodup := (List.nodup_append.mp (List.nodup_append.mp n).2.1).1
          simp only [List.nodup_append, List.mem_append] at n3 hd ⊢
          exact ⟨n3.1, ⟨ng, n3.2.1, fun a ha b hb e => hd a ha (.inr (e ▸ hb))⟩, fun a ha b hb e => by
            rcases hb with hb | hb
            · exact hd b hb (.inl (e ▸ ha))
            · exact n3.2.2 a ha b hb e⟩
        · intro p hp
          simp only [List.mem_append] at hp s3 ⊢
          rcases hp with h | h | h
          · have := s3 p (.inl h); rcases this with h | h <;> simp [h]
          · simp [h]
          · have := s3 p (.inr h); rcases this with h | h <;> simp [h]
      · cases e
    | @bo v i vs rs f2 hv a =>
      rw [take] at e
      split at e
      · rename_i d hi
        split at e
        · rename_i es ds3 e2
          cases e
          obtain ⟨v', fa, fb, fc, rfl, hv', ho, kk⟩ := o.split hi
          rw [hv] at hv'; cases hv'
          cases hc : clean d with
          | true =>
            rw [hc] at e2
            have := ho.clean (clean_sing hc)
            subst this
            obtain ⟨f3, f4, o3, o4, n3, s3⟩ := ih o a n e2
            exact ⟨f3, f4, o3, ho.append o4, n3, s3⟩
          | false =>
            rw [hc] at e2
            obtain ⟨k1, _⟩ := kk G H (Same.refl G) fun a ha => ⟨fun o e => e, (o.here a (by rcases ha with h | h <;> simp [h])).2⟩
            have n' : ((fa ++ fc) ++ f2).Nodup := by
              simp only [List.nodup_append, List.mem_append] at n ⊢
              exact ⟨⟨n.1.1.1, n.1.2.1, fun a ha b hb => n.1.2.2 a (.inl ha) b hb⟩, n.2.1, fun a ha b hb => n.2.2 a (ha.elim (fun h => .inl (.inl h)) .inr) b hb⟩
            obtain ⟨f3, f4, o3, o4, n3, s3⟩ := ih k1 a n' (by simpa using e2)
            refine ⟨f3, fb ++ f4, o3, ho.append o4, ?_, ?_⟩
            · have hd : ∀ p ∈ fb, p ∉ f3 ++ f4 := fun p hp q => by
                have := s3 p q
                simp only [List.nodup_append, List.mem_append] at n this
                rcases this with (h | h) | h
                · exact n.1.1.2.2 p h p hp rfl
                · exact n.1.2.2 p (.inr hp) p h rfl
                · exact n.2.2 p (.inl (.inr hp)) p h rfl
              have ng : fb.Nodup := by
                simp only [List.nodup_append] at n; exact n.1.1.2.1
              simp only [List.nodup_append, List.mem_append] at n3 hd ⊢
              exact ⟨n3.1, ⟨ng, n3.2.1, fun a ha b hb e => hd a ha (.inr (e ▸ hb))⟩, fun a ha b hb e => by
                rcases hb with hb | hb
                · exact hd b hb (.inl (e ▸ ha))
                · exact n3.2.2 a ha b hb e⟩
            · intro p hp
              simp only [List.mem_append] at hp s3 ⊢
              rcases hp with h | h | h
              · have := s3 p (.inl h); rcases this with (h | h) | h <;> simp [h]
              · simp [h]
              · have := s3 p (.inr h); rcases this with (h | h) | h <;> simp [h]
        · cases e
      · cases e
theorem set_self {σ : L2.St} {i : Nat} {o : Option V} (h : σ[i]? = some o) : σ.set i o = σ := by
  obtain ⟨hi, e⟩ := List.getElem?_eq_some_iff.mp h
  rw [← e]; exact List.set_getElem_self hi
theorem put_ok : ∀ {rs : List (Nat ⊕ D)} {vs : List V} {as : List D} {os ds : DS} {f1 f2 fa : List Addr}, OwnS K mg G H σ ds f1 → OwnA K mg G1 H1 σ vs rs fa → OwnS K mg G H (vs.map some) os f2 → (f1 ++ f2).Nodup →
    ∃ f', OwnS K mg G H σ (put rs as os ds) f' ∧ f'.Nodup ∧ ∀ p ∈ f', p ∈ f1 ++ f2 := by
  intro rs
  induction rs with
  | nil =>
    intro vs as os ds f1 f2 fa o a q n
    exact ⟨f1, by simpa [put] using o, (List.nodup_append.mp n).1, fun p h => List.mem_append_left _ h⟩
  | cons r rs ih =>
    intro vs as os ds f1 f2 fa o a q n
    have triv : ∃ f', OwnS K mg G H σ ds f' ∧ f'.Nodup ∧ ∀ p ∈ f', p ∈ f1 ++ f2 := ⟨f1, o, (List.nodup_append.mp n).1, fun p h => List.mem_append_left _ h⟩
    cases a with
    | @ex v d vs rs g1 g2 e1 a =>
      cases as with
      | nil => simpa [put] using triv
      | cons a0 as =>
        cases os with
        | nil => simpa [put] using triv
        | cons o0 os =>
          simp only [put]
          cases q with
          | no q => exact ih o a q n
          | @yes _ _ _ _ h1 h2 e2 q =>
            obtain ⟨f', o', n', s'⟩ := ih (as := as) o a q (by
              simp only [List.nodup_append, List.mem_append] at n ⊢
              exact ⟨n.1, n.2.1.2.1, fun a ha b hb => n.2.2 a ha b (.inr hb)⟩)
            refine ⟨f', o', n', fun p hp => ?_⟩
            have := s' p hp
            simp only [List.mem_append] at this ⊢
            rcases this with h | h <;> simp [h]
    | @bo v i vs rs f2 hv a =>
      cases as with
      | nil => simpa [put] using triv
      | cons a0 as =>
        cases os with
        | nil => simpa [put] using triv
        | cons o0 os =>
          simp only [put]
          cases q with
          | no q =>
            cases hc : clean a0 with
            | true => simpa using ih o a q n
            | false =>
              obtain ⟨fa, fb, fc, rfl, kk⟩ := o.drop i
              have o1 := kk (some v)
              rw [set_self hv] at o1
              obtain ⟨f', o', n', s'⟩ := ih (as := as) o1 a q (by
                simp only [List.nodup_append, List.mem_append] at n ⊢
                exact ⟨⟨n.1.1.1, n.1.2.1, fun a ha b hb => n.1.2.2 a (.inl ha) b hb⟩, n.2.1, fun a ha b hb => n.2.2 a (ha.elim (fun h => .inl (.inl h)) .inr) b hb⟩)
              refine ⟨f', by simpa using o', n', fun p hp => ?_⟩
              have := s' p hp
              simp only [List.mem_append] at this ⊢
              rcases this with (h | h) | h <;> simp [h]
          | @yes v0 d0 _ _ h1 h2 e2 q =>
            cases hc : clean a0 with
            | true =>
              obtain ⟨f', o', n', s'⟩ := ih (as := as) o a q (by
                simp only [List.nodup_append, List.mem_append] at n ⊢
                exact ⟨n.1, n.2.1.2.1, fun a ha b hb => n.2.2 a ha b (.inr hb)⟩)
              refine ⟨f', by simpa using o', n', fun p hp => ?_⟩
              have := s' p hp
              simp only [List.mem_append] at this ⊢
              rcases this with h | h <;> simp [h]
            | false =>
              have hi : i < ds.length := by
                rw [← o.length]; exact (List.getElem?_eq_some_iff.mp hv).1
              obtain ⟨fa, fb, fc, rfl, kk⟩ := o.bind hi
              have o1 := kk v d0 h1 e2
              rw [set_self hv] at o1
              obtain ⟨f', o', n', s'⟩ := ih (as := as) o1 a q (by
                simp only [List.nodup_append, List.mem_append] at n ⊢
                exact ⟨⟨⟨n.1.1.1, n.2.1.1, fun a ha b hb => n.2.2 a (.inl (.inl ha)) b (.inl hb)⟩, n.1.2.1, fun a ha b hb => by
                  rcases ha with ha | ha
                  · exact n.1.2.2 a (.inl ha) b hb
                  · exact fun z => n.2.2 b (.inr hb) a (.inl ha) z.symm⟩, n.2.1.2.1, fun a ha b hb => by
                  rcases ha with (ha | ha) | ha
                  · exact n.2.2 a (.inl (.inl ha)) b (.inr hb)
                  · exact n.2.1.2.2 a ha b hb
                  · exact n.2.2 a (.inr ha) b (.inr hb)⟩)
              refine ⟨f', by simpa using o', n', fun p hp => ?_⟩
              have := s' p hp
              simp only [List.mem_append] at this ⊢
              rcases this with ((h | h) | h) | h <;> simp [h]
theorem mArgs_len : ∀ {args : List Arg} {ds ds1 : DS} {rs : List (Nat ⊕ D)}, mArgs args ds = some (rs, ds1) → rs.length = args.length := by
  intro args
  induction args with
  | nil => intro ds ds1 rs e; cases e; rfl
  | cons a r ih =>
    intro ds ds1 rs e1
    cases a with
    | ex m =>
      rw [mArgs] at e1
      split at e1
      · split at e1
        · rename_i e2
          cases e1
          simp [ih e2]
        · cases e1
      · cases e1
    | bo i =>
      rw [mArgs] at e1
      split at e1
      · split at e1
        · rename_i e2
          cases e1
          simp [ih e2]
        · cases e1
      · cases e1
theorem tm_call {np : Nat} {F : List D → Option (D × DS)} {args : List Arg} {E : XK} {Q : VK} (hl : args.length = np) (h : tm K mg (mCall F args) σ H Q) : tCall (spF K mg np F) [] E (tArgs K mg args) σ H Q := by
  obtain ⟨G, ds, f, d, ds', gh, o, n, e, k⟩ := h
  unfold mCall at e
  split at e
  · rename_i rs ds1 e1
    split at e
    · rename_i as ds2 e2
      split at e
      · rename_i d0 os e3
        cases e
        refine args_ok args gh o n e1 fun vs G1 H1 p1 => ?_
        obtain ⟨f1, f2, x1, o1, q1, n1⟩ := p1
        obtain ⟨f3, f4, o3, o4, n3, s3⟩ := take_ok o1 q1 n1 e2
        have nn := List.nodup_append.mp n3
        have hrs : rs.length = args.length := mArgs_len e1
        show spF K mg np F (vs ++ []) H1 Q E
        rw [List.append_nil]
        refine ⟨by rw [q1.length, hrs, hl], G1, as, f4, _, _, x1.gh, o4, nn.2.1, e3, fun v G2 H2 p2 => k v G2 H2 ?_⟩
        obtain ⟨g1, g2, y, o5, q5, n5⟩ := p2
        have hh := o3.here
        have nd : ∀ p ∈ f3, p ∉ f4 := fun p h q => nodup_disj n3 p q h
        have o3' := o3.frame y.gg (y.aside hh nd)
        have ap := y.apart hh nd
        have n5' := List.nodup_append.mp n5
        obtain ⟨f', o', n', s'⟩ := put_ok (as := as) o3' q1 o5 (by
          rw [List.nodup_append]
          exact ⟨nn.1, n5'.1, fun a ha b hb e => ap a ha (List.mem_append_left _ (e ▸ hb))⟩)
        have z : Ext (f4 ++ f3) G1 H1 ((g1 ++ g2) ++ f3) G2 H2 := y.frame f3 hh
        have z0 : Ext f G H (f4 ++ f3) G1 H1 := x1.less fun p hp => s3 p (by simp only [List.mem_append] at hp ⊢; exact hp.symm)
        refine ⟨f', g2, (z0.trans z).less ?_, o', q5, ?_⟩
        · intro p hp
          simp only [List.mem_append] at hp s' ⊢
          rcases hp with h | h
          · rcases s' p h with h | h <;> simp [h]
          · simp [h]
        · rw [List.nodup_append]
          refine ⟨n', n5'.2.1, fun a ha b hb e => ?_⟩
          rcases List.mem_append.mp (s' a ha) with h | h
          · exact ap a h (List.mem_append_right _ (e ▸ hb))
          · exact n5'.2.2 a h b hb e
      · cases e
    · cases e
  · cases e
abbrev XAr (X : Cx) (es : List Expr) (args : List Arg) : Prop := PA X es (tArgs X.kw X.mg args)
theorem xr_nil {X : Cx} : XAr X [] [] := pa_nil
theorem xr_ex {X : Cx} {e : Expr} {es : List Expr} {m : ME} {r : List Arg} (ha : XE X e m) (hr : XAr X es r) (hs : starEach (e :: es) X.env = (false, eval e X.env) :: starEach es X.env := by rfl) : XAr X (e :: es) (.ex m :: r) := pa_cons ha hr hs
theorem xr_bo {X : Cx} (i : Nat) {nm : Str} {p : Pos} {es : List Expr} {r : List Arg} (hr : XAr X es r) (hN : X.N[i]? = some nm := by rfl) (hv : Vis X.env.scope nm := by first | exact Or.inl rfl | exact Or.inr (Or.inl rfl) | exact Or.inr (Or.inr rfl)) (hd : (nm == ("__debug__" : Str)) = false := by decide) (hcd : (nm == ("__classdict__" : Str)) = false := by decide) (hs : starEach (.Name nm p :: es) X.env = (false, eval (.Name nm p) X.env) :: starEach es X.env := by rfl) : XAr X (.Name nm p :: es) (.bo i :: r) := pa_cons (pe_var hN hv hd hcd) hr hs
theorem xe_call {X : Cx} {k : Nat} {nm : Str} {np : Nat} {F : List D → Option (D × DS)} {p pos : Pos} {e : Expr} {es : List Expr} {args : List Arg} (D : Def X.prog X.w X.K X.mg X.base k nm np F) (hr : Room k X.A) (ha : XAr X (e :: es) args) (hg : Gl X nm := by rfl) (hl : args.length = np := by rfl) (hdb : (nm == ("__debug__" : Str)) = false := by decide) (he : starEach (e :: es) X.env = (false, eval e X.env) :: starEach es X.env := by rfl) (hpl : (backTo pos (starEach es X.env)).any (·.1) = false := by rfl) : XE X (.Call (.Name nm p) (e :: es) [] pos) (mCall F args) := by
  obtain ⟨f, fd, ps, hm, hk, hb, hn, G⟩ := D.ex
  exact PE.mono (pe_call G hr hg hm hk hb .nil (fun _ _ _ _ _ _ _ h => h.elim) ha hdb he hpl (E := fun _ _ _ => False)) fun _ _ _ h => tm_call hl h
end
end Z
namespace Z
open PySem PySem.Spec L2
section
variable {K : KW} {mg : Str → Option Value} {f f1 f2 : List Addr} {G H G1 H1 G2 H2 : Hp} {σ : L2.St} {ds ds1 ds2 : DS} {vs ws : List V} {es es2 : List D} {x y : V} {d e : D} {X : Cx} {Q : VK} {fx : Nat → Bool} {E : Ends}
/-! ### x[i] = e -/
theorem Owns.set (h : Owns K mg G H vs es f) : ∀ {j : Nat} {v : V} {d : D} {g : List Addr}, Owns K mg G H [v] [d] g → (f ++ g).Nodup → j < es.length → ∃ f', Owns K mg G H (vs.set j v) (es.set j d) f' ∧ f'.Nodup ∧ ∀ p ∈ f', p ∈ f ++ g := by
  have key : ∀ (es : List D) (vs : List V) (f : List Addr), Owns K mg G H vs es f → ∀ {j : Nat} {v : V} {d : D} {g : List Addr}, Owns K mg G H [v] [d] g → (f ++ g).Nodup → j < es.length → ∃ f', Owns K mg G H (vs.set j v) (es.set j d) f' ∧ f'.Nodup ∧ ∀ p ∈ f', p ∈ f ++ g := by
    intro es
    induction es with
    | nil => intro vs f h j v d g _ _ hj; simp at hj
    | cons d0 es ih =>
      intro vs f h j v d g hg n hj
      cases vs with
      | nil => cases h
      | cons v0 vs =>
        obtain ⟨f1, f2, rfl, h1, h2⟩ := h.cons_inv
        cases j with
        | zero =>
          refine ⟨g ++ f2, by simpa using hg.append h2, ?_, ?_⟩
          · simp only [List.nodup_append, List.mem_append] at n ⊢
            exact ⟨n.2.1, n.1.2.1, fun a ha b hb z => n.2.2 b (.inr hb) a ha z.symm⟩
          · intro p hp; simp only [List.mem_append] at hp ⊢; rcases hp with h | h <;> simp [h]
        | succ j =>
          obtain ⟨f', o', n', s'⟩ := ih vs f2 h2 (j := j) hg (by
            simp only [List.nodup_append, List.mem_append] at n ⊢
            exact ⟨n.1.2.1, n.2.1, fun a ha b hb => n.2.2 a (.inr ha) b hb⟩) (by simpa using hj)
          refine ⟨f1 ++ f', by simpa using h1.append o', ?_, ?_⟩
          · simp only [List.nodup_append, List.mem_append] at n s' ⊢
            exact ⟨n.1.1, n', fun a ha b hb => by
              rcases s' b hb with h | h
              · exact n.1.2.2 a ha b h
              · exact n.2.2 a (.inl ha) b h⟩
          · intro p hp
            simp only [List.mem_append] at hp s' ⊢
            rcases hp with h | h
            · simp [h]
            · rcases s' p h with h | h <;> simp [h]
  intro j v d g
  exact key es vs f h
/-- the own list at slot i is changed -/
def mSetIx (i : Nat) (mi me : ME) : MS := fun ds => match me ds with
  | some (d, ds1) => match ds1[i]? with
    | some (some _) => match mi ds1 with
      | some (.v (.int k), ds2) => match ds2[i]? with
        | some (some (.lst .own es)) => match ixN es.length k with
          | some j => some (.nx (ds2.set i (some (.lst .own (es.set j d)))))
          | none => none
        | _ => none
      | _ => none
    | _ => none
  | none => none
/-! ### x += e for ints -/
def mAug (i : Nat) (g : Int → Int → Int) (me : ME) : MS := fun ds => match ds[i]? with
  | some (some (.v (.int a))) => match me ds with
    | some (.v (.int b), ds1) => (setSlot i (.v (.int (g a b))) ds1).map .nx
    | _ => none
  | _ => none
/-! ### what is walked -/
/-- the iterator gives these, whatever comes about meanwhile -/
def ItD (K : KW) (mg : Str → Option Value) (J : It) (items : List D) (G : Hp) : Prop := ∀ G' H', Same G G' → Same G' H' →
  (∀ i, items.length ≤ i → J.stop i H') ∧ ∀ i d, items[i]? = some d → J.go i H' ∧ ∀ x H'', J.yld i H' x H'' → ∃ G'', Ext [] G' H' [] G'' H'' ∧ Owns K mg G'' H'' [x] [d] []
def ti (K : KW) (mg : Str → Option Value) (m : MA) : TI := fun σ H R => ∃ G ds f items ds', Same G H ∧ OwnS K mg G H σ ds f ∧ f.Nodup ∧ m ds = some (items, ds') ∧ ∀ J G' H', Pst K mg f G H σ ds' [] [] G' H' → ItD K mg J items G' → R J H'
abbrev XI (X : Cx) (tg e : Expr) (m : MA) : Prop := PI X tg e (ti X.kw X.mg m)
theorem PI.mono {tg e : Expr} {t t' : TI} (h : PI X tg e t) (k : ∀ σ H Q, t' σ H Q → t σ H Q) : PI X tg e t' := ⟨fun pins s σ H Q I q => h.run pins s σ H Q I (k σ H Q q)⟩
theorem Owns.lst_inv2 {o : O} (h : Owns K mg G H [x] [.lst o es] f) (g : Same G H) : ∃ a xs f', x = .ref a ∧ SqL K H a xs ∧ Owns K mg G H xs es f' ∧ (∀ p ∈ f', p ∈ f) ∧ ∀ G', Same G G' → (∀ p ∈ f, ∀ u, H p = some u → G' p = some u) → SqL K G' a xs := by
  cases h with
  | el e a b => cases b; exact ⟨_, _, _, rfl, sqL_mono g e, a, by simp, fun G' g' _ => sqL_mono g' e⟩
  | fl e a b => cases b; exact ⟨_, _, _, rfl, .inl (.inl (g _ _ e)), a, by simp, fun G' g' _ => .inl (.inl (g' _ _ e))⟩
  | ol e n a b => cases b; exact ⟨_, _, _, rfl, .inl (.inl e), a, by simp; intro p h; exact .inr h, fun G' _ k => .inl (.inl (k _ (by simp) _ e))⟩
/-- the items of a datum, frozen -/
def itemsL : D → Option (List D)
  | .lst _ es => if cleans (fzs es) then some (fzs es) else none
  | _ => none
def itemsT : D → Option (List D)
  | .tup es => if cleans (fzs es) then some (fzs es) else none
  | _ => none
def mIt (g : D → Option (List D)) (m : ME) : MA := fun ds => match m ds with
  | some (d, ds1) => match g d with
    | some es => some (es, ds1)
    | none => none
  | none => none
theorem itd_list {a : Addr} {xs : List V} (h : SqL K G a xs) (o : ∀ G' H', Same G G' → Owns K mg G' H' xs es []) : ItD K mg (Itl K a) es G := by
  intro G' H' g gh
  have hs : SqL K H' a xs := sqL_mono gh (sqL_mono g h)
  have hl := (o G' H' g).length
  refine ⟨fun i hi => ⟨xs, hs, by omega⟩, fun i d hd => ?_⟩
  obtain ⟨v, f', e1, e2, s1, _⟩ := (o G' H' g).item hd
  have : f' = [] := by
    cases f' with
    | nil => rfl
    | cons p r => exact absurd (s1 p (by simp)) (by simp)
  subst this
  refine ⟨⟨xs, v, hs, e1⟩, fun x H'' hy => ?_⟩
  obtain ⟨rfl, hy⟩ := hy
  have := hy xs hs
  rw [e1] at this; cases this
  exact ⟨G', Ext.refl gh [], e2⟩
/-- what is owned beside the slots is frozen -/
theorem Pst.freeze {ws : List V} {es : List D} (x1 : Ext f G H (f1 ++ f2) G1 H1) (o1 : OwnS K mg G1 H1 σ ds f1) (q1 : Owns K mg G1 H1 ws es f2) (n1 : (f1 ++ f2).Nodup) : ∃ G', Pst K mg f G H σ ds [] [] G' H1 ∧ Same G1 G' ∧ (∀ p ∈ f2, ∀ u, H1 p = some u → G' p = some u) ∧ Same G' H1 := by
  let G' : Hp := fun a => if a ∈ f2 then H1 a else G1 a
  have hb := q1.here
  have gG : Same G1 G' := fun b u e => by
    show (if b ∈ f2 then H1 b else G1 b) = some u
    rw [if_neg (fun h => by have := (hb b h).2; rw [this] at e; cases e)]; exact e
  have gH : Same G' H1 := fun b u e => by
    by_cases h : b ∈ f2
    · have : G' b = H1 b := if_pos h
      rw [this] at e; exact e
    · have : G' b = G1 b := if_neg h
      rw [this] at e; exact x1.gh b u e
  have nd := nodup_disj n1
  refine ⟨G', ⟨f1, [], ?_, ?_, .nil, by simpa using (List.nodup_append.mp n1).1⟩, gG, fun p h u e => by show (if p ∈ f2 then H1 p else G1 p) = some u; rw [if_pos h]; exact e, gH⟩
  · refine ⟨gH, x1.gg.trans gG, x1.keep, fun p hp => x1.fpn p (by simp at hp; simp [hp]), fun p u g hp e => ?_⟩
    have h1 := x1.gn p u g hp e
    show (if p ∈ f2 then H1 p else G1 p) = none
    rw [if_neg (fun h => by
      rcases x1.fpn p (List.mem_append_right _ h) with h | h
      · exact hp h
      · rw [h] at e; cases e)]
    exact h1
  · exact o1.frame gG fun p hp => ⟨fun u e => e, by show (if p ∈ f2 then H1 p else G1 p) = none; rw [if_neg (fun h => nd p h hp)]; exact (o1.here p hp).2⟩
theorem ti_list {m : ME} {R : It → Hp → Prop} (h : ti K mg (mIt itemsL m) σ H R) : iList K (tm K mg m) σ H R := by
  obtain ⟨G, ds, f, items, ds', g, o, n, e, k⟩ := h
  unfold mIt at e
  split at e
  · rename_i d ds1 e1
    split at e
    · rename_i es e2
      cases e
      refine ⟨G, ds, f, d, _, g, o, n, e1, fun v G1 H1 p1 => ?_⟩
      obtain ⟨f1, f2, x1, o1, q1, n1⟩ := p1
      unfold itemsL at e2
      split at e2
      · split at e2
        · rename_i oo es c
          cases e2
          obtain ⟨G', p', g', k', gh'⟩ := Pst.freeze x1 o1 q1 n1
          obtain ⟨a, xs, f', rfl, hs, w, s1, hG⟩ := q1.lst_inv2 x1.gh
          have hs' := hG G' g' k'
          exact ⟨a, rfl, ⟨xs, hs⟩, k _ G' H1 p' (itd_list hs' fun G2 H2 g2 => w.freeze c (g'.trans g2) fun p hp u e => g2 p u (k' p (s1 p hp) u e))⟩
        · cases e2
      · cases e2
    · cases e
  · cases e
end
end Z
namespace Z
open PySem PySem.Spec L2
section
variable {K : KW} {mg : Str → Option Value} {f f1 f2 : List Addr} {G H G1 H1 G2 H2 : Hp} {σ : L2.St} {ds ds1 ds2 : DS} {vs ws : List V} {es es2 : List D} {x y : V} {d e : D} {X : Cx} {Q : VK} {fx : Nat → Bool} {E : Ends}
theorem xi_list {tg e : Expr} {m : ME} (h : XE X e m) : XI X tg e (mIt itemsL m) := PI.mono (pi_list h) fun _ _ _ q => ti_list q
/-! ranges -/
def rangeD (lo : Int) (n : Nat) : List D := (List.range n).map fun (i : Nat) => .v (.int (lo + (i : Int)))
def mRng : List D → Option (List D)
  | [.v (.int j)] => if j < 1000000000 ∧ -1000000000 < j then some (rangeD 0 j.toNat) else none
  | [.v (.int i), .v (.int j)] => if i < 1000000000 ∧ -1000000000 < i ∧ j < 1000000000 ∧ -1000000000 < j then some (rangeD i (j - i).toNat) else none
  | _ => none
def mRngA (m : MA) : MA := fun ds => match m ds with
  | some (es, ds1) => match mRng es with
    | some r => some (r, ds1)
    | none => none
  | none => none
theorem itd_range {lo : Int} {n : Nat} : ItD K mg (Itr lo n) (rangeD lo n) G := by
  intro G' H' g gh
  refine ⟨fun i hi => show n ≤ i by simpa [rangeD] using hi, fun i d hd => ?_⟩
  unfold rangeD at hd
  rw [List.getElem?_map] at hd
  cases hr : (List.range n)[i]? with
  | none => rw [hr] at hd; cases hd
  | some j =>
    rw [hr] at hd; cases hd
    obtain ⟨hi, e⟩ := List.getElem?_eq_some_iff.mp hr
    have hi' : i < n := by simpa using hi
    have : j = i := by simpa using e.symm
    subst this
    refine ⟨hi', fun x H'' hy => ?_⟩
    obtain ⟨rfl, rfl⟩ := hy
    exact ⟨G', Ext.refl gh [], .v .nil⟩
theorem vals1 (h : Owns K mg G H vs [.v x] f) : vs = [x] ∧ f = [] := by
  cases vs with
  | nil => cases h
  | cons v vs =>
    obtain ⟨f1, f2, rfl, h1, h2⟩ := h.cons_inv
    cases h2
    obtain ⟨rfl, rfl⟩ := h1.v_inv
    exact ⟨rfl, rfl⟩
theorem vals2 (h : Owns K mg G H vs [.v x, .v y] f) : vs = [x, y] ∧ f = [] := by
  cases vs with
  | nil => cases h
  | cons v vs =>
    obtain ⟨f1, f2, rfl, h1, h2⟩ := h.cons_inv
    obtain ⟨rfl, rfl⟩ := vals1 h2
    obtain ⟨rfl, rfl⟩ := h1.v_inv
    exact ⟨rfl, rfl⟩
theorem ti_rng1 {m : MA} {R : It → Hp → Prop} (hone : ∀ ds es ds', m ds = some (es, ds') → es.length = 1) (h : ti K mg (mRngA m) σ H R) : iRng1 (ta K mg m) σ H R := by
  obtain ⟨G, ds, f, items, ds', g, o, n, e, k⟩ := h
  unfold mRngA at e
  split at e
  · rename_i es ds1 e1
    have hl := hone _ _ _ e1
    split at e
    · rename_i r e2
      cases e
      refine ⟨G, ds, f, es, _, g, o, n, e1, fun vs G1 H1 p1 => ?_⟩
      obtain ⟨f1, f2, x1, o1, q1, n1⟩ := p1
      unfold mRng at e2
      split at e2
      · split at e2
        · rename_i j c
          cases e2
          obtain ⟨rfl, rfl⟩ := vals1 q1
          exact ⟨j, rfl, by omega, by omega, k _ G1 H1 ⟨f1, [], x1, o1, .nil, n1⟩ itd_range⟩
        · cases e2
      · simp at hl
      · cases e2
    · cases e
  · cases e
theorem mCons_len {m : ME} {r : MA} {n : Nat} (h : ∀ ds es ds', r ds = some (es, ds') → es.length = n) : ∀ ds es ds', mCons m r ds = some (es, ds') → es.length = n + 1 := by
  intro ds es ds' e
  unfold mCons at e
  split at e
  · split at e
    · rename_i e2
      cases e
      simp [h _ _ _ e2]
    · cases e
  · cases e
theorem mNil_len : ∀ ds es ds', mNil ds = some (es, ds') → es.length = 0 := by intro ds es ds' e; cases e; rfl
theorem xi_rng1 {tg a : Expr} {m : ME} {p pos : Pos} (hm : X.mg "range" = none) (ha : XE X a m) (hg : Gl X "range" := by rfl) (hs0 : starEach [a] X.env = (false, eval a X.env) :: starEach [] X.env := by rfl) (hs : starEach [a] X.env = [(false, eval a X.env)] := by rfl) : XI X tg (.Call (.Name "range" p) [a] [] pos) (mRngA (mCons m mNil)) :=
  PI.mono (pi_range1 hg hm (xa_cons ha xa_nil hs0) hs) fun _ _ _ q => ti_rng1 (mCons_len mNil_len) q
/-! ### targets -/
abbrev MG := D → DS → Option DS
abbrev MGs := List D → DS → Option DS
def tg (K : KW) (mg : Str → Option Value) (fx : Nat → Bool) (m : MG) : TG := fun x σ H Q => ∃ G ds f d ds', Same G H ∧ OwnS K mg G H σ ds f ∧ f.Nodup ∧ Owns K mg G H [x] [d] [] ∧ m d ds = some ds' ∧ ∀ σ' G' H', FixS fx σ σ' → Pst K mg f G H σ' ds' [] [] G' H' → Q σ' H'
theorem PG.mono {e : Expr} {t t' : TG} (h : PG X e t) (k : ∀ x σ H Q, t' x σ H Q → t x σ H Q) : PG X e t' := ⟨fun pins s σ H v u Q I r q => h.run pins s σ H v u Q I r (k v σ H Q q)⟩
theorem PGs.mono {e : List Expr} {t t' : TGs} (h : PGs X e t) (k : ∀ x σ H Q, t' x σ H Q → t x σ H Q) : PGs X e t' := ⟨fun pins s σ H v u Q I r q => h.run pins s σ H v u Q I r (k v σ H Q q)⟩
abbrev XG (X : Cx) (fx : Nat → Bool) (e : Expr) (m : MG) : Prop := PG X e (tg X.kw X.mg fx m)
def gNm (i : Nat) : MG := fun d ds => setSlot i d ds
def gNl : MGs := fun es ds => match es with
  | [] => some ds
  | _ => none
def gCs (a : MG) (r : MGs) : MGs := fun es ds => match es with
  | d :: es => match a d ds with
    | some ds1 => r es ds1
    | none => none
  | [] => none
def gTu (n : Nat) (m : MGs) : MG := fun d ds => match d with
  | .tup es => if es.length = n then m es ds else none
  | _ => none
theorem xg_name (i : Nat) {nm : Str} {pos : Pos} (hN : X.N.Nodup) (hf : fx i = false := by rfl) (hi : X.N[i]? = some nm := by rfl) (hx : Loc X.env.scope nm := by first | exact Or.inl rfl | exact Or.inr rfl) (hff : X.fn nm = true ∨ X.env.scope.names.lookup nm = some .local := by first | exact .inl rfl | exact .inr rfl) : XG X fx (.Name nm pos) (gNm i) :=
  PG.mono (pg_name hN hi hx hff) fun x σ H Q h => by
    obtain ⟨G, ds, f, d, ds', g, o, n, w, e, k⟩ := h
    exact k _ G H (FixS.set σ _ hf) (Pst.bind (d := d) ⟨f, [], by simpa using Ext.refl g f, o, w, by simpa using n⟩ e)
/-! ### for -/
def forL (a : MG) (b : MS) : List D → DS → Option Out
  | [], ds => some (.nx ds)
  | x :: r, ds => match a x ds with
    | some ds1 => match b ds1 with
      | some (.nx ds2) => forL a b r ds2
      | some (.ct ds2) => forL a b r ds2
      | some (.bk ds2) => some (.nx ds2)
      | some (.rt d ds2) => some (.rt d ds2)
      | none => none
    | none => none
def mFor (mi : MA) (a : MG) (b : MS) : MS := fun ds => match mi ds with
  | some (items, ds1) => forL a b items ds1
  | none => none
theorem ts_for {mi : MA} {a : MG} {b : MS} (h : ts K mg fx (mFor mi a b) E σ H) : tFor (ti K mg mi) (tg K mg fx a) (ts K mg fx b) E σ H := by
  obtain ⟨G, ds, f, out, gh, o, n, e, k⟩ := h
  unfold mFor at e
  split at e
  · rename_i items ds1 e1
    refine ⟨G, ds, f, items, ds1, gh, o, n, e1, fun J G1 H1 p1 hJ => ?_⟩
    obtain ⟨f1, f2, x1, o1, q1, n1⟩ := p1
    cases q1
    refine ⟨fun i m σ' H' => m = items.length - i ∧ FixS fx σ σ' ∧ ∃ G' ds' f', Ext f G H f' G' H' ∧ Same G1 G' ∧ OwnS K mg G' H' σ' ds' f' ∧ f'.Nodup ∧ forL a b (items.drop i) ds' = some out,
      ⟨items.length, rfl, FixS.refl _ _, G1, ds1, f1, by simpa using x1, Same.refl G1, o1, (List.nodup_append.mp n1).1, by simpa using e⟩, fun i m σ' H' hW => ?_⟩
    obtain ⟨rfl, hx, G', ds', f', x', g', o', n', e'⟩ := hW
    obtain ⟨hstop, hgo⟩ := hJ G' H' g' x'.gh
    by_cases hi : items.length ≤ i
    · refine .inl ⟨hstop i hi, ?_⟩
      rw [List.drop_of_length_le hi] at e'
      cases e'
      exact k σ' hx G' H' ⟨f', [], by simpa using x', o', .nil, by simpa using n'⟩
    · have hlt : i < items.length := by omega
      obtain ⟨hg, hy⟩ := hgo i items[i] (List.getElem?_eq_getElem hlt)
      refine .inr ⟨hg, _, fun σ2 H2 hN => hN, fun x H2 hyl => ?_⟩
      obtain ⟨G2, y2, w2⟩ := hy x H2 hyl
      have hE : Ext f' G' H' f' G2 H2 := by
        have := y2.frame f' o'.here
        simpa using this
      have o2 : OwnS K mg G2 H2 σ' ds' f' := o'.frame y2.gg (y2.aside o'.here (by simp))
      rw [List.drop_eq_getElem_cons hlt] at e'
      unfold forL at e'
      split at e'
      · rename_i ds2 e2
        refine ⟨G2, ds', f', items[i], ds2, y2.gh, o2, n', w2, e2, fun σ3 G3 H3 hx3 p3 => ?_⟩
        obtain ⟨f3, f4, x3, o3, q3, n3⟩ := p3
        cases q3
        have x3' : Ext f' G2 H2 f3 G3 H3 := by simpa using x3
        have xx : Ext f G H f3 G3 H3 := (x'.trans hE).trans x3'
        have gg : Same G1 G3 := (g'.trans y2.gg).trans x3'.gg
        have fin : ∀ {σ4 : L2.St} {ds4 : DS} {G4 H4 : Hp} {vs : List V} {es : List D}, Pst K mg f3 G3 H3 σ4 ds4 vs es G4 H4 → Pst K mg f G H σ4 ds4 vs es G4 H4 := fun p => Pst.nil_trans (by simpa using xx) p
        have nxt : ∀ {σ4 : L2.St} {ds4 : DS} {G4 H4 : Hp}, FixS fx σ3 σ4 → Pst K mg f3 G3 H3 σ4 ds4 [] [] G4 H4 → forL a b (items.drop (i + 1)) ds4 = some out →
            ∃ m', m' < items.length - i ∧ m' = items.length - (i + 1) ∧ FixS fx σ σ4 ∧ ∃ G' ds' f', Ext f G H f' G' H4 ∧ Same G1 G' ∧ OwnS K mg G' H4 σ4 ds' f' ∧ f'.Nodup ∧ forL a b (items.drop (i + 1)) ds' = some out := by
          intro σ4 ds4 G4 H4 hx4 p4 e4
          obtain ⟨f5, f6, x5, o5, q5, n5⟩ := p4
          cases q5
          have x5' : Ext f3 G3 H3 f5 G4 H4 := by simpa using x5
          exact ⟨_, by omega, rfl, (hx.trans hx3).trans hx4, G4, ds4, f5, xx.trans x5', gg.trans x5'.gg, o5, (List.nodup_append.mp n5).1, e4⟩
        split at e'
        · rename_i ds4 e4
          exact ⟨G3, ds2, f3, _, x3'.gh, o3, (List.nodup_append.mp n3).1, e4, fun σ4 hx4 G4 H4 p4 => nxt hx4 p4 e'⟩
        · rename_i ds4 e4
          exact ⟨G3, ds2, f3, _, x3'.gh, o3, (List.nodup_append.mp n3).1, e4, fun σ4 hx4 G4 H4 p4 => nxt hx4 p4 e'⟩
        · rename_i ds4 e4
          cases e'
          exact ⟨G3, ds2, f3, _, x3'.gh, o3, (List.nodup_append.mp n3).1, e4, fun σ4 hx4 G4 H4 p4 => k σ4 ((hx.trans hx3).trans hx4) G4 H4 (fin p4)⟩
        · rename_i d4 ds4 e4
          cases e'
          exact ⟨G3, ds2, f3, _, x3'.gh, o3, (List.nodup_append.mp n3).1, e4, fun σ4 hx4 v G4 H4 p4 => k σ4 ((hx.trans hx3).trans hx4) v G4 H4 (fin p4)⟩
        · cases e'
      · cases e'
  · cases e
theorem xs_for {tge iter : Expr} {body : List Stmt} {pos : Pos} {mi : MA} {a : MG} {b : MS} (hp : PassesOwn (model X.prog X.w) X.A X.env X.xe) (hc : X.calm = true) (hi : XI X tge iter mi) (hg : XG X fx tge a) (hb : XB X fx body b) (hs : ∀ x, foldedSetIterable iter X.env x = pure x := by intro _; rfl) : XS X fx (.For tge iter body [] pos) (mFor mi a b) :=
  PS.mono (ps_for hp hc hi hg hb hs) fun _ _ _ h => ts_for h
end
end Z
namespace Z
open PySem PySem.Spec L2
section
variable {K : KW} {mg : Str → Option Value} {f f1 f2 : List Addr} {G H G1 H1 G2 H2 : Hp} {σ : L2.St} {ds ds1 ds2 : DS} {vs ws : List V} {es es2 : List D} {x y : V} {d e : D} {X : Cx} {Q : VK} {fx : Nat → Bool} {E : Ends}
def wipeD (ds : DS) : List Nat → DS
  | [] => ds
  | v :: vs => (wipeD ds vs).set v none
theorem wipeD_length (ds : DS) : ∀ vs : List Nat, (wipeD ds vs).length = ds.length
  | [] => rfl
  | v :: vs => by rw [wipeD, List.length_set, wipeD_length ds vs]
theorem wipeD_get {ds : DS} {i : Nat} {d : D} : ∀ {vs : List Nat}, (wipeD ds vs)[i]? = some (some d) → ds[i]? = some (some d) ∧ i ∉ vs
  | [], h => ⟨h, by simp⟩
  | v :: vs, h => by
    rw [wipeD] at h
    by_cases e : v = i
    · subst e
      rw [List.getElem?_set_self'] at h
      cases hh : (wipeD ds vs)[v]? with
      | none => rw [hh] at h; cases h
      | some o => rw [hh] at h; cases h
    · rw [List.getElem?_set_ne e] at h
      obtain ⟨a, b⟩ := wipeD_get h
      exact ⟨a, by simp; exact ⟨fun z => e z.symm, b⟩⟩
theorem OwnS.weaken (h : OwnS K mg G H σ ds f) : ∀ {σ2 : L2.St} {ds2 : DS}, σ2.length = σ.length → ds2.length = ds.length → (∀ (i : Nat) (d : D), ds2[i]? = some (some d) → ds[i]? = some (some d) ∧ σ2[i]? = σ[i]?) → ∃ f', OwnS K mg G H σ2 ds2 f' ∧ (∀ p ∈ f', p ∈ f) ∧ (f.Nodup → f'.Nodup) := by
  induction h with
  | nil =>
    intro σ2 ds2 h1 h2 _
    have e1 := List.eq_nil_of_length_eq_zero h1
    have e2 := List.eq_nil_of_length_eq_zero h2
    subst e1; subst e2
    exact ⟨[], .nil, by simp, fun n => n⟩
  | @no o σ ds f h ih =>
    intro σ2 ds2 h1 h2 k
    cases σ2 with
    | nil => simp at h1
    | cons o2 σ2 =>
      cases ds2 with
      | nil => simp at h2
      | cons e2 ds2 =>
        obtain ⟨f', a, b, c⟩ := ih (σ2 := σ2) (ds2 := ds2) (by simpa using h1) (by simpa using h2) fun i d hd => by simpa using k (i + 1) d (by simpa using hd)
        cases e2 with
        | none => exact ⟨f', .no a, b, c⟩
        | some d =>
          have := (k 0 d rfl).1
          simp at this
  | @yes v0 d0 σ ds g1 g2 e0 h ih =>
    intro σ2 ds2 h1 h2 k
    cases σ2 with
    | nil => simp at h1
    | cons o2 σ2 =>
      cases ds2 with
      | nil => simp at h2
      | cons e2 ds2 =>
        obtain ⟨f', a, b, c⟩ := ih (σ2 := σ2) (ds2 := ds2) (by simpa using h1) (by simpa using h2) fun i d hd => by simpa using k (i + 1) d (by simpa using hd)
        cases e2 with
        | none => exact ⟨f', .no a, fun p hp => List.mem_append_right _ (b p hp), fun n => c (List.nodup_append.mp n).2.1⟩
        | some d =>
          have := k 0 d rfl
          have e1 : d0 = d := by simpa using this.1
          have e3 : o2 = some v0 := by simpa using this.2
          subst e1; subst e3
          refine ⟨g1 ++ f', .yes e0 a, fun p hp => ?_, fun n => ?_⟩
          · rcases List.mem_append.mp hp with h | h
            · exact List.mem_append_left _ h
            · exact List.mem_append_right _ (b p h)
          · have nn := List.nodup_append.mp n
            rw [List.nodup_append]
            exact ⟨nn.1, c nn.2.1, fun a ha q hq => nn.2.2 a ha q (b q hq)⟩
theorem wipe_get {σ : L2.St} {i : Nat} : ∀ {vs : List Nat}, i ∉ vs → (wipe σ vs)[i]? = σ[i]?
  | [], _ => rfl
  | v :: vs, h => by
    rw [wipe, List.getElem?_set_ne (fun z => h (by simp [z]))]
    exact wipe_get fun z => h (by simp [z])
theorem OwnS.wiped (h : OwnS K mg G H σ ds f) (ws : List Nat) : ∃ f', OwnS K mg G H (wipe σ ws) (wipeD ds ws) f' ∧ (∀ p ∈ f', p ∈ f) ∧ (f.Nodup → f'.Nodup) :=
  h.weaken (wipe_length σ ws) (wipeD_length ds ws) fun i d hd => let ⟨a, b⟩ := wipeD_get hd; ⟨a, wipe_get b⟩
/-- from a turn's slots back to the wiped ones -/
theorem OwnS.rewiped {σ2 : L2.St} (h : OwnS K mg G H σ2 ds f) (ws : List Nat) (hl : σ2.length = σ.length) (hs : ∀ i, i ∉ ws → σ2[i]? = σ[i]?) : (∃ f', OwnS K mg G H (wipe σ ws) (wipeD ds ws) f' ∧ (∀ p ∈ f', p ∈ f) ∧ (f.Nodup → f'.Nodup)) ∧ ∃ f', OwnS K mg G H σ (wipeD ds ws) f' ∧ (∀ p ∈ f', p ∈ f) ∧ (f.Nodup → f'.Nodup) :=
  ⟨h.weaken (by rw [wipe_length, hl]) (wipeD_length ds ws) fun i d hd => let ⟨a, b⟩ := wipeD_get hd; ⟨a, by rw [wipe_get b, hs i b]⟩,
   h.weaken hl.symm (wipeD_length ds ws) fun i d hd => let ⟨a, b⟩ := wipeD_get hd; ⟨a, (hs i b).symm⟩⟩
theorem wipe_ext {σ σ2 : L2.St} {ws : List Nat} (hl : σ2.length = σ.length) (hs : ∀ i, i ∉ ws → σ2[i]? = σ[i]?) : wipe σ2 ws = wipe σ ws := by
  apply List.ext_getElem?
  intro i
  by_cases h : i ∈ ws
  · have key : ∀ (τ : L2.St) (ws : List Nat), i ∈ ws → (wipe τ ws)[i]? = if i < τ.length then some none else none := by
      intro τ ws
      induction ws with
      | nil => intro h; cases h
      | cons v vs ih =>
        intro h
        rw [wipe]
        by_cases e : v = i
        · subst e
          rw [List.getElem?_set_self']
          have hw := wipe_length τ vs
          by_cases hi : v < τ.length
          · rw [if_pos hi, List.getElem?_eq_getElem (by omega)]; rfl
          · rw [if_neg hi, List.getElem?_eq_none (by omega)]; rfl
        · rw [List.getElem?_set_ne e]
          exact ih (by rcases List.mem_cons.mp h with h | h; · exact absurd h.symm e
                       · exact h)
    rw [key σ2 ws h, key σ ws h, hl]
  · rw [wipe_get h, wipe_get h, hs i h]
def lcL (a : MG) (t : MT) (m : ME) (ws : List Nat) : List D → DS → Option (List D × DS)
  | [], ds => some ([], ds)
  | x :: r, ds => match a x ds with
    | some ds1 => match t ds1 with
      | some (true, ds2) => match m ds2 with
        | some (d, ds3) => match lcL a t m ws r (wipeD ds3 ws) with
          | some (es, ds4) => some (d :: es, ds4)
          | none => none
        | none => none
      | some (false, ds2) => lcL a t m ws r (wipeD ds2 ws)
      | none => none
    | none => none
def mLc (mi : MA) (a : MG) (t : MT) (m : ME) (ws : List Nat) : ME := fun ds => match mi ds with
  | some (items, ds1) => if items.length ≤ 1000000 then match lcL a t m ws items (wipeD ds1 ws) with
    | some (es, ds2) => some (.lst .own es, ds2)
    | none => none
    else none
  | none => none
def mYes : MT := fun ds => some (true, ds)
def notIn (ws : List Nat) : Nat → Bool := fun i => !ws.contains i
theorem fix_out {ws : List Nat} {σ σ2 : L2.St} (h : FixS (notIn ws) (wipe σ ws) σ2) : σ2.length = σ.length ∧ ∀ i, i ∉ ws → σ2[i]? = σ[i]? :=
  ⟨by rw [h.1, wipe_length], fun i hi => by rw [h.2 i (by simp [notIn, hi]), wipe_get hi]⟩
theorem tm_lc {mi : MA} {a : MG} {t : MT} {m : ME} {ws : List Nat} (h : tm K mg (mLc mi a t m ws) σ H Q) : tLc (ti K mg mi) (tg K mg (notIn ws) a) (tt K mg t) (tm K mg m) ws σ H Q := by
  obtain ⟨G, ds, f, d, ds', gh, o, n, e, k⟩ := h
  unfold mLc at e
  split at e
  · rename_i items ds1 e1
    split at e
    · rename_i hsz
      split at e
      · rename_i total dsF e2
        cases e
        refine ⟨G, ds, f, items, ds1, gh, o, n, e1, fun J G1 H1 p1 hJ Dl hD => ?_⟩
        obtain ⟨f1, f2, x1, o1, q1, n1⟩ := p1
        cases q1
        have x1' : Ext f G H f1 G1 H1 := by simpa using x1
        have n1' := (List.nodup_append.mp n1).1
        obtain ⟨g1, w1, s1, m1⟩ := o1.wiped ws
        have gD := not_g x1'.gh hD
        refine ⟨fun i mm H' => mm = items.length - i ∧ ∃ G' dsw f' acc accv fa rest, Ext f G H (f' ++ (Dl :: fa)) G' H' ∧ Same G1 G' ∧ OwnS K mg G' H' (wipe σ ws) (wipeD dsw ws) f' ∧ H' Dl = some (.lst accv) ∧ G' Dl = none ∧ Owns K mg G' H' accv acc fa ∧ (f' ++ (Dl :: fa)).Nodup ∧ acc.length ≤ i ∧ lcL a t m ws (items.drop i) (wipeD dsw ws) = some (rest, ds') ∧ acc ++ rest = total,
          ⟨items.length, rfl, G1, ds1, g1, [], [], [], total, ?_, Same.refl G1, ?_, upd_same, gD, .nil, ?_, Nat.le_refl _, by simpa using e2, rfl⟩, fun i mm H' hW => ?_⟩
        · have := Ext.new (f := f1) (o := .lst []) x1'.gh hD
          refine (x1'.trans this).less fun p hp => ?_
          rcases List.mem_append.mp hp with h | h
          · exact List.mem_cons_of_mem _ (s1 p h)
          · rcases List.mem_cons.mp h with rfl | h
            · exact List.mem_cons_self
            · cases h
        · exact w1.frame (Same.refl G1) fun p hp => ⟨fun u e => by rw [upd_ne (ne_of_none e hD)]; exact e, (w1.here p hp).2⟩
        · rw [List.nodup_append]
          refine ⟨m1 n1', by simp, fun p hp q hq z => ?_⟩
          have : q = Dl := by simpa using hq
          subst this; subst z
          obtain ⟨u, e⟩ := (w1.here p hp).1
          rw [hD] at e; cases e
        · obtain ⟨rfl, G', dsw, f', acc, accv, fa, rest, x', g', o', eD, eG, wa, n', hac, e', htot⟩ := hW
          obtain ⟨hstop, hgo⟩ := hJ G' H' g' x'.gh
          by_cases hi : items.length ≤ i
          · refine .inl ⟨hstop i hi, ?_⟩
            rw [List.drop_of_length_le hi, lcL] at e'
            cases e'
            rw [List.append_nil] at htot
            subst htot
            obtain ⟨f'', o2, s2, m2⟩ := o'.weaken (σ2 := σ) (ds2 := wipeD dsw ws) (wipe_length σ ws).symm rfl fun i d hd => ⟨hd, (wipe_get (wipeD_get hd).2).symm⟩
            have nn := List.nodup_append.mp n'
            refine k _ G' H' ⟨f'', Dl :: (fa ++ []), x'.less fun p hp => ?_, o2, .ol eD eG wa .nil, ?_⟩
            · simp only [List.mem_append, List.mem_cons, List.append_nil] at hp ⊢
              rcases hp with h | h
              · exact .inl (s2 p h)
              · exact .inr h
            · rw [List.append_nil, List.nodup_append]
              exact ⟨m2 nn.1, nn.2.1, fun p hp q hq => nn.2.2 p (s2 p hp) q hq⟩
          · have hlt : i < items.length := by omega
            obtain ⟨hg, hy⟩ := hgo i items[i] (List.getElem?_eq_getElem hlt)
            refine .inr ⟨hg, _, fun H2 hN => hN, fun x H2 hyl => ?_⟩
            obtain ⟨G2, y2, w2⟩ := hy x H2 hyl
            -- the frame: the list and its items
            have hfr : ∀ p ∈ Dl :: fa, (∃ o, H' p = some o) ∧ G' p = none := fun p hp => by
              rcases List.mem_cons.mp hp with rfl | hp
              · exact ⟨⟨_, eD⟩, eG⟩
              · exact wa.here p hp
            have hE : Ext f' G' H' f' G2 H2 := by
              have := y2.frame f' o'.here
              simpa using this
            have o2 : OwnS K mg G2 H2 (wipe σ ws) (wipeD dsw ws) f' := o'.frame y2.gg (y2.aside o'.here (by simp))
            have nn := List.nodup_append.mp n'
            rw [List.drop_eq_getElem_cons hlt, lcL] at e'
            split at e'
            · rename_i dsa ea
              refine ⟨G2, _, f', items[i], dsa, y2.gh, o2, nn.1, w2, ea, fun σ3 G3 H3 hx3 p3 => ?_⟩
              obtain ⟨f3, f4, x3, o3, q3, n3⟩ := p3
              cases q3
              have x3' : Ext f' G' H' f3 G3 H3 := hE.trans (by simpa using x3)
              have n3' := (List.nodup_append.mp n3).1
              obtain ⟨hl3, hs3⟩ := fix_out hx3
              refine ⟨wipe_ext hl3 hs3, ?_⟩
              split at e'
              · rename_i dsb eb
                refine ⟨G3, dsa, f3, true, dsb, x3'.gh, o3, n3', eb, fun G4 H4 p4 => ?_⟩
                obtain ⟨f5, f6, x4, o4, q4, n4⟩ := p4
                cases q4
                have x4' : Ext f' G' H' f5 G4 H4 := x3'.trans (by simpa using x4)
                show tm K mg m σ3 H4 _
                split at e'
                · rename_i dd dsc ec
                  refine ⟨G4, dsb, f5, dd, dsc, x4'.gh, o4, (List.nodup_append.mp n4).1, ec, fun y5 G5 H5 p5 => ?_⟩
                  obtain ⟨f7, f8, x5, o5, q5, n5⟩ := p5
                  have x5' : Ext f' G' H' (f7 ++ f8) G5 H5 := x4'.trans x5
                  split at e'
                  · rename_i rest' dsd ed
                    cases e'
                    have hfr5 := x5'.aside hfr (fun p hp hq => nn.2.2 p hq p hp rfl)
                    have ap5 := x5'.apart hfr (fun p hp hq => nn.2.2 p hq p hp rfl)
                    have eD5 : H5 Dl = some (.lst accv) := (hfr5 Dl (by simp)).1 _ eD
                    have eG5 : G5 Dl = none := (hfr5 Dl (by simp)).2
                    have wa5 : Owns K mg G5 H5 accv acc fa := wa.frame x5'.gg fun p hp => hfr5 p (List.mem_cons_of_mem _ hp)
                    obtain ⟨⟨f9, o9, s9, m9⟩, _⟩ := o5.rewiped (σ := σ) ws hl3 hs3
                    have hk : ∀ p, p ≠ Dl → ∀ u, H5 p = some u → upd H5 Dl (.lst (accv ++ [y5])) p = some u := fun p hp u e => by rw [upd_ne hp]; exact e
                    have nd7 := List.nodup_append.mp n5
                    have hne : ∀ p, p ∈ f9 ∨ p ∈ fa ∨ p ∈ f8 → p ≠ Dl := by
                      intro p hp z
                      subst z
                      rcases hp with h | h | h
                      · exact ap5 p (by simp) (List.mem_append_left _ (s9 p h))
                      · exact (List.nodup_cons.mp nn.2.1).1 h
                      · exact ap5 p (by simp) (List.mem_append_right _ h)
                    refine ⟨accv, eD5, ?_, items.length - (i + 1), by omega, rfl, G5, dsc, f9, acc ++ [dd], accv ++ [y5], fa ++ f8, rest', ?_, g'.trans x5'.gg, ?_, upd_same, eG5, ?_, ?_, ?_, ed, ?_⟩
                    · rw [wa5.length, sizeLine_eq]; omega
                    · have xx : Ext f G H ((f7 ++ f8) ++ (Dl :: fa)) G5 H5 := x'.trans (x5'.frame (Dl :: fa) hfr)
                      refine ⟨fun p u e => hk p (fun z => by subst z; rw [eG5] at e; cases e) u (xx.gh p u e), xx.gg, fun p u e hp => ?_, fun p hp => ?_, xx.gn⟩
                      · refine hk p (fun z => ?_) u (xx.keep p u e hp)
                        subst z
                        rcases xx.fpn p (by simp) with h | h
                        · exact hp h
                        · rw [h] at e; cases e
                      · refine xx.fpn p ?_
                        simp only [List.mem_append, List.mem_cons] at hp s9 ⊢
                        rcases hp with h | h | h | h
                        · exact .inl (.inl (s9 p h))
                        · exact .inr (.inl h)
                        · exact .inr (.inr h)
                        · exact .inl (.inr h)
                    · exact o9.frame (Same.refl G5) fun p hp => ⟨hk p (hne p (.inl hp)), (o9.here p hp).2⟩
                    · exact (wa5.append q5).frame (Same.refl G5) fun p hp => ⟨hk p (hne p (by rcases List.mem_append.mp hp with h | h <;> simp [h])), ((wa5.append q5).here p hp).2⟩
                    · have nfa := (List.nodup_cons.mp nn.2.1).2
                      rw [List.nodup_append, List.nodup_cons, List.nodup_append]
                      refine ⟨m9 nd7.1, ⟨fun h => hne Dl (by rcases List.mem_append.mp h with h | h <;> simp [h]) rfl, nfa, nd7.2.1, fun p hp q hq z => ?_⟩, fun p hp q hq z => ?_⟩
                      · exact ap5 p (List.mem_cons_of_mem _ hp) (List.mem_append_right _ (z ▸ hq))
                      · rcases List.mem_cons.mp hq with h | h
                        · exact hne p (.inl hp) (z.trans h)
                        · rcases List.mem_append.mp h with h | h
                          · exact ap5 q (List.mem_cons_of_mem _ h) (List.mem_append_left _ (z ▸ s9 p hp))
                          · exact nd7.2.2 p (s9 p hp) q h z
                    · simp; omega
                    · rw [List.append_assoc]; exact htot
                  · cases e'
                · cases e'
              · rename_i dsb eb
                refine ⟨G3, dsa, f3, false, dsb, x3'.gh, o3, n3', eb, fun G4 H4 p4 => ?_⟩
                obtain ⟨f5, f6, x4, o4, q4, n4⟩ := p4
                cases q4
                have x4' : Ext f' G' H' f5 G4 H4 := x3'.trans (by simpa using x4)
                have hfr5 := x4'.aside hfr (fun p hp hq => nn.2.2 p hq p hp rfl)
                have ap5 := x4'.apart hfr (fun p hp hq => nn.2.2 p hq p hp rfl)
                obtain ⟨⟨f9, o9, s9, m9⟩, _⟩ := o4.rewiped (σ := σ) ws hl3 hs3
                have xx : Ext f G H (f5 ++ (Dl :: fa)) G4 H4 := x'.trans (x4'.frame (Dl :: fa) hfr)
                show ∃ m', _
                refine ⟨items.length - (i + 1), by omega, rfl, G4, dsb, f9, acc, accv, fa, rest, xx.less fun p hp => ?_, g'.trans x4'.gg, o9, (hfr5 Dl (by simp)).1 _ eD, (hfr5 Dl (by simp)).2, wa.frame x4'.gg fun p hp => hfr5 p (List.mem_cons_of_mem _ hp), ?_, by omega, e', htot⟩
                · simp only [List.mem_append, List.mem_cons] at hp ⊢
                  rcases hp with h | h
                  · exact .inl (s9 p h)
                  · exact .inr h
                · rw [List.nodup_append]
                  exact ⟨m9 (List.nodup_append.mp n4).1, nn.2.1, fun p hp q hq z => ap5 q hq (z ▸ s9 p hp)⟩
              · cases e'
            · cases e'
      · cases e
    · cases e
  · cases e
abbrev XTs (X : Cx) (ifs : List Expr) (m : MT) : Prop := PTs X ifs (tt X.kw X.mg m)
theorem PTs.mono {ifs : List Expr} {t t' : TT} (h : PTs X ifs t) (k : ∀ σ H Q, t' σ H Q → t σ H Q) : PTs X ifs t' := ⟨fun pins s σ H Q I q => h.run pins s σ H Q I (k σ H Q q)⟩
theorem xts_one {c : Expr} {m : MT} (h : XT X c m) : XTs X [c] m := pts_one h
theorem xe_lc (own : List (Str × Nat)) {elt tge iter : Expr} {ifs : List Expr} {scope : Scope} {pos : Pos} {mi : MA} {a : MG} {t : MT} {m : ME} (hN : X.N.Nodup) (hi : XI X tge iter mi) (ok : BlkOk X.N X.env.scope scope own)
    (hg : ∀ (s : Shared) (H : Hp) (C : Addr) (cl : List (Str × Addr)) (fp : List Addr), XG (X.blk s H scope (PySem.compEnvC scope cl C X.env) fp) (notIn (own.map (·.2))) tge a)
    (ht : ∀ (s : Shared) (H : Hp) (C : Addr) (cl : List (Str × Addr)) (fp : List Addr), XTs (X.blk s H scope (PySem.compEnvC scope cl C X.env) fp) ifs t)
    (he : ∀ (s : Shared) (H : Hp) (C : Addr) (cl : List (Str × Addr)) (fp : List Addr), XE (X.blk s H scope (PySem.compEnvC scope cl C X.env) fp) elt m) (hc : X.calm = true := by rfl) (hs : ∀ x, foldedSetIterable iter X.env x = pure x := by intro _; rfl) : XE X (.ListComp elt [⟨tge, iter, ifs, 0⟩] scope pos) (mLc mi a t m (own.map (·.2))) :=
  PE.mono (pe_lc hc hN hi ok hg ht he hs) fun _ _ _ h => tm_lc h
end
end Z
namespace Z
open PySem PySem.Spec L2
section
variable {K : KW} {mg : Str → Option Value} {f f1 f2 : List Addr} {G H G1 H1 G2 H2 : Hp} {σ : L2.St} {ds ds1 ds2 : DS} {vs ws : List V} {es es2 : List D} {x y : V} {d e : D} {X : Cx} {Q : VK} {fx : Nat → Bool} {E : Ends}
/-! ### what stands at the top -/
structure KV (K : KW) (mg : Str → Option Value) (x : Str) (d : D) : Prop where
  ex : ∃ v u, mg x = some u ∧ RelV v u ∧ ∀ G H, Owns K mg G H [v] [d] []
def mK (d : D) : ME := fun ds => some (d, ds)
theorem xe_kv {nm : Str} {pos : Pos} (h : KV X.kw X.mg nm d) (hg : Gl X nm := by rfl) (hd : (nm == ("__debug__" : Str)) = false := by decide) : XE X (.Name nm pos) (mK d) := by
  obtain ⟨v, u, hm, r, o⟩ := h.ex
  refine PE.mono (pe_glob hg hm r hd) fun σ H Q q => ?_
  obtain ⟨G, ds, f, d', ds', g, os, n, e, k⟩ := q
  cases e
  exact k v G H ⟨f, [], by simpa using Ext.refl g f, os, o G H, by simpa using n⟩
theorem kv_int {nm : Str} {i : Int} {t : Tok} (h : mg nm = some (.int i t)) : KV K mg nm (.v (.int i)) := ⟨.int i, _, h, ⟨t, rfl⟩, fun _ _ => .v .nil⟩
theorem kv_str {nm : Str} {z : Str} {t : Tok} (h : mg nm = some (.str z t)) : KV K mg nm (.v (.str z)) := ⟨.str z, _, h, ⟨t, rfl⟩, fun _ _ => .v .nil⟩
/-! ### and, or, not, if as values -/
def mAndV (a b : ME) : ME := fun ds => match a ds with
  | some (.v (.bl true), ds1) => b ds1
  | some (.v (.bl false), ds1) => some (.v (.bl false), ds1)
  | _ => none
def mOrV (a b : ME) : ME := fun ds => match a ds with
  | some (.v (.bl true), ds1) => some (.v (.bl true), ds1)
  | some (.v (.bl false), ds1) => b ds1
  | _ => none
def mNotV (a : ME) : ME := fun ds => match a ds with
  | some (.v (.bl b), ds1) => some (.v (.bl (!b)), ds1)
  | _ => none
def mIfE (t : MT) (a b : ME) : ME := fun ds => match t ds with
  | some (true, ds1) => a ds1
  | some (false, ds1) => b ds1
  | none => none
variable {a b c : Expr} {rest : List Expr} {pos : Pos} {ma mb : ME} {t : MT}
/-! ### in, not in -/
def flatD : D → Option V
  | .v x => if flatV x then some x else none
  | _ => none
def flatsD : List D → Option (List V)
  | [] => some []
  | d :: ds => match flatD d, flatsD ds with
    | some x, some xs => some (x :: xs)
    | _, _ => none
def dInB (d e : D) : Option Bool := match e with
  | .lst _ es => match flatD d, flatsD es with
    | some x, some xs => some (inV x xs)
    | _, _ => match py d, pys es with
      | some p, some ps => if SeqAt.shaped p && SeqAt.shaped (.list ps) then some (ps.any fun z => PyData.eqv z p) else none
      | _, _ => none
  | .tup es => match flatD d, flatsD es with
    | some x, some xs => some (inV x xs)
    | _, _ => none
  | .ktp es => match flatD d, flatsD es with
    | some x, some xs => some (inV x xs)
    | _, _ => none
  | .v (.str z) => match d with
    | .v (.str s) => match s.cps.toList with
      | [ch] => some (decide (ch ∈ z.cps.toList))
      | _ => some (!(Builtin.Str.occurrences z s 0 z.length 1).isEmpty)
    | _ => none
  | _ => none
def dIn (d e : D) : Option D := (dInB d e).map fun b => .v (.bl b)
def dNin (d e : D) : Option D := (dInB d e).map fun b => .v (.bl (!b))
theorem flats_own : ∀ {es : List D} {vs : List V} {f : List Addr} {xs : List V}, Owns K mg G H vs es f → flatsD es = some xs → vs = xs ∧ xs.all flatV = true := by
  intro es
  induction es with
  | nil => intro vs f xs h e; cases e; cases h; exact ⟨rfl, rfl⟩
  | cons d es ih =>
    intro vs f xs h e
    cases vs with
    | nil => cases h
    | cons v vs =>
      obtain ⟨f1, f2, rfl, h1, h2⟩ := h.cons_inv
      rw [flatsD] at e
      cases hd : flatD d with
      | none => rw [hd] at e; cases e
      | some x =>
        cases hq : flatsD es with
        | none => rw [hd, hq] at e; cases e
        | some q =>
          rw [hd, hq] at e; cases e
          obtain ⟨rfl, h3⟩ := ih h2 hq
          cases d with
          | v w =>
            rw [flatD] at hd
            split at hd
            · rename_i hf
              cases hd
              obtain ⟨rfl, rfl⟩ := h1.v_inv
              exact ⟨rfl, by rw [List.all_cons, hf, h3]; rfl⟩
            · cases hd
          | _ => cases hd
theorem flat_own (h : Owns K mg G H [x] [d] f) {w : V} (e : flatD d = some w) : x = w ∧ flatV w = true ∧ f = [] := by
  cases d with
  | v u =>
    rw [flatD] at e
    split at e
    · rename_i hf
      cases e
      obtain ⟨rfl, rfl⟩ := h.v_inv
      exact ⟨rfl, hf, rfl⟩
    · cases e
  | _ => cases e
def rInA (K : PySem.W.Frag) : R2 := fun x y H Q => rIn K false x y H Q ∨ (rInD K x y H Q ∨ ((∃ (c : Nat) (z : Str), x = .str ⟨#[c]⟩ ∧ y = .str z ∧ Q (.bl (decide (c ∈ z.cps.toList))) H) ∨ (∃ i j, x = .str i ∧ y = .str j ∧ Q (.bl (!(Builtin.Str.occurrences j i 0 j.length 1).isEmpty)) H)))
def rNinA (K : PySem.W.Frag) : R2 := fun x y H Q => rIn K true x y H Q ∨ (rNotInD K x y H Q ∨ ((∃ (c : Nat) (z : Str), x = .str ⟨#[c]⟩ ∧ y = .str z ∧ Q (.bl (!decide (c ∈ z.cps.toList))) H) ∨ (∃ i j, x = .str i ∧ y = .str j ∧ Q (.bl (!(!(Builtin.Str.occurrences j i 0 j.length 1).isEmpty))) H)))
theorem str_one {s : Str} {c : Nat} (h : s.cps.toList = [c]) : s = ⟨#[c]⟩ := by
  obtain ⟨a⟩ := s
  congr 1
  apply Array.toList_inj.mp
  simpa using h
/-- both at once: b the answer of `in`, k of what follows -/
theorem in_core {P : R2} {b : Bool} (gh : Same G H) (h1 : Owns K mg G H [x] [d] f1) (h2 : Owns K mg G H [y] [e] f2) (q : dInB d e = some b) :
    (∃ p xs, y = .ref p ∧ (SqL K H p xs ∨ SqT K H p xs) ∧ flatV x = true ∧ xs.all flatV = true ∧ b = inV x xs) ∨
    (∃ dd ds, Dp K H x dd ∧ Dp K H y (.list ds) ∧ SeqAt.shaped dd = true ∧ SeqAt.shaped (.list ds) = true ∧ b = (ds.any fun z => PyData.eqv z dd)) ∨
    (∃ (c : Nat) (z : Str), x = .str ⟨#[c]⟩ ∧ y = .str z ∧ b = decide (c ∈ z.cps.toList)) ∨
    (∃ i j, x = .str i ∧ y = .str j ∧ b = !(Builtin.Str.occurrences j i 0 j.length 1).isEmpty) := by
  unfold dInB at q
  split at q
  · rename_i oo es
    split at q
    · rename_i x0 xs0 e1 e2
      cases q
      obtain ⟨a, xs, f', rfl, hs, w, _, _⟩ := h2.lst_inv gh
      obtain ⟨rfl, hf, _⟩ := flat_own h1 e1
      obtain ⟨rfl, hfs⟩ := flats_own w e2
      exact .inl ⟨a, _, rfl, .inl hs, hf, hfs, rfl⟩
    · split at q
      · rename_i p ps e1 e2
        split at q
        · rename_i c
          cases q
          rw [Bool.and_eq_true] at c
          exact .inr (.inl ⟨p, ps, h1.dp1 gh e1, h2.dp1 gh (by simp [py, e2]), c.1, c.2, rfl⟩)
        · cases q
      · cases q
  · rename_i es
    split at q
    · rename_i x0 xs0 e1 e2
      cases q
      obtain ⟨a, xs, rfl, hs, _, w⟩ := h2.tup_inv gh
      obtain ⟨rfl, hf, _⟩ := flat_own h1 e1
      obtain ⟨rfl, hfs⟩ := flats_own w e2
      exact .inl ⟨a, _, rfl, .inr hs, hf, hfs, rfl⟩
    · cases q
  · rename_i es
    split at q
    · rename_i x0 xs0 e1 e2
      cases q
      obtain ⟨a, xs, rfl, hs, _, w⟩ := h2.ktp_inv gh
      obtain ⟨rfl, hf, _⟩ := flat_own h1 e1
      obtain ⟨rfl, hfs⟩ := flats_own w e2
      exact .inl ⟨a, _, rfl, .inr hs, hf, hfs, rfl⟩
    · cases q
  · split at q
    · obtain ⟨rfl, _⟩ := h1.v_inv
      obtain ⟨rfl, _⟩ := h2.v_inv
      split at q
      · rename_i s ch hc
        cases q
        have := str_one hc
        exact .inr (.inr (.inl ⟨ch, _, by rw [this], rfl, rfl⟩))
      · cases q
        exact .inr (.inr (.inr ⟨_, _, rfl, rfl, rfl⟩))
    · cases q
  · cases q
theorem opd_in : OpD K mg (rInA K) dIn := by
  intro G H x y d e d' f Q gh h n q k
  obtain ⟨f1, f2, rfl, h1, h2⟩ := h.two
  unfold dIn at q
  cases hb : dInB d e with
  | none => rw [hb] at q; cases q
  | some b =>
    rw [hb] at q; cases q
    have kk := k (.bl b) G H (VPst.val gh)
    rcases in_core (P := rInA K) gh h1 h2 hb with ⟨p, xs, a1, a2, a3, a4, rfl⟩ | ⟨dd, dss, a1, a2, a3, a4, rfl⟩ | ⟨c, z, a1, a2, rfl⟩ | ⟨i, j, a1, a2, rfl⟩
    · exact .inl ⟨p, xs, a1, a2, a3, a4, kk⟩
    · exact .inr (.inl ⟨dd, dss, a1, a2, a3, a4, kk⟩)
    · exact .inr (.inr (.inl ⟨c, z, a1, a2, kk⟩))
    · exact .inr (.inr (.inr ⟨i, j, a1, a2, kk⟩))
theorem opd_nin : OpD K mg (rNinA K) dNin := by
  intro G H x y d e d' f Q gh h n q k
  obtain ⟨f1, f2, rfl, h1, h2⟩ := h.two
  unfold dNin at q
  cases hb : dInB d e with
  | none => rw [hb] at q; cases q
  | some b =>
    rw [hb] at q; cases q
    have kk := k (.bl (!b)) G H (VPst.val gh)
    rcases in_core (P := rInA K) gh h1 h2 hb with ⟨p, xs, a1, a2, a3, a4, rfl⟩ | ⟨dd, dss, a1, a2, a3, a4, rfl⟩ | ⟨c, z, a1, a2, rfl⟩ | ⟨i, j, a1, a2, rfl⟩
    · exact .inl ⟨p, xs, a1, a2, a3, a4, kk⟩
    · exact .inr (.inl ⟨dd, dss, a1, a2, a3, a4, kk⟩)
    · exact .inr (.inr (.inl ⟨c, z, a1, a2, kk⟩))
    · exact .inr (.inr (.inr ⟨i, j, a1, a2, kk⟩))
theorem opr_in (hu : X.A.units + 65 < cLine) : OpR X (compareOp .In) (rInA X.K) := op_in_seq.or ((op_inD hu).or (op_in_sign.or op_in_str))
theorem opr_nin (hu : X.A.units + 65 < cLine) : OpR X (compareOp .NotIn) (rNinA X.K) := op_notIn_seq.or ((op_notInD hu).or (op_notIn_sign.or op_notin_str))
theorem xt_in (hu : X.A.units + 65 < cLine) (ha : XE X a ma) (hb : XE X b mb) (hm : behindInMarks .In b = false := by rfl) : XT X (.Compare a [.In] [b] pos) (mTst (mOp dIn ma mb)) := xt_cmp (opr_in hu) opd_in ha hb hm
theorem xt_nin (hu : X.A.units + 65 < cLine) (ha : XE X a ma) (hb : XE X b mb) (hm : behindInMarks .NotIn b = false := by rfl) : XT X (.Compare a [.NotIn] [b] pos) (mTst (mOp dNin ma mb)) := xt_cmp (opr_nin hu) opd_nin ha hb hm
/-! ### slices -/
abbrev MO := DS → Option (Option Int × DS)
def to (K : KW) (mg : Str → Option Value) (m : MO) : TO := fun σ H Q => ∃ G ds f b ds', Same G H ∧ OwnS K mg G H σ ds f ∧ f.Nodup ∧ m ds = some (b, ds') ∧ ∀ G' H', Pst K mg f G H σ ds' [] [] G' H' → Q b H'
def oNo : MO := fun ds => some (none, ds)
def oYes (m : ME) : MO := fun ds => match m ds with
  | some (.v (.int i), ds1) => some (some i, ds1)
  | _ => none
abbrev XO (X : Cx) (e : Option Expr) (m : MO) : Prop := PO X e (to X.kw X.mg m)
theorem PO.mono {e : Option Expr} {t t' : TO} (h : PO X e t) (k : ∀ σ H Q, t' σ H Q → t σ H Q) : PO X e t' := ⟨fun pins s σ H Q I q => h.run pins s σ H Q I (k σ H Q q)⟩
theorem xo_no : XO X none oNo := PO.mono po_none fun σ H Q h => by
  obtain ⟨G, ds, f, b, ds', g, o, n, e, k⟩ := h
  cases e
  exact k G H (Pst.refl g o n)
theorem xo_yes {e : Expr} {m : ME} (h : XE X e m) : XO X (some e) (oYes m) := PO.mono (po_some h) fun σ H Q h => by
  obtain ⟨G, ds, f, b, ds', g, o, n, e, k⟩ := h
  unfold oYes at e
  split at e
  · rename_i i ds1 e1
    cases e
    refine ⟨G, ds, f, _, _, g, o, n, e1, fun v G1 H1 p1 => ?_⟩
    obtain ⟨f1, f2, x1, o1, q1, n1⟩ := p1
    obtain ⟨rfl, rfl⟩ := q1.v_inv
    exact ⟨i, rfl, k G1 H1 ⟨f1, [], x1, o1, .nil, n1⟩⟩
  · cases e
def cutL {α : Type} (xs : List α) (lo hi : Option Int) : List α := (xs.drop (HT.sIx xs.length 0 lo)).take (HT.sIx xs.length xs.length hi - HT.sIx xs.length 0 lo)
def dCut : D → Option Int → Option Int → Option D
  | .lst _ es, lo, hi => if cleans es then some (.lst .own (cutL es lo hi)) else none
  | .tup es, lo, hi => if cleans es then some (.tup (cutL es lo hi)) else none
  | .v (.str z), lo, hi => if z.length ≤ 16777216 then some (.v (.str (cutS z lo hi))) else none
  | _, _, _ => none
def mSl (m : ME) (lo hi : MO) : ME := fun ds => match m ds with
  | some (d, ds1) => if clean d then match lo ds1 with
    | some (l, ds2) => match hi ds2 with
      | some (h, ds3) => match dCut d l h with
        | some d' => some (d', ds3)
        | none => none
      | none => none
    | none => none
    else none
  | none => none
theorem Owns.drop_ : ∀ {es : List D} {vs : List V} (n : Nat), Owns K mg G H vs es [] → Owns K mg G H (vs.drop n) (es.drop n) [] := by
  intro es
  induction es with
  | nil => intro vs n h; have := h.length; have : vs = [] := List.eq_nil_of_length_eq_zero this; subst this; simpa using h
  | cons d es ih =>
    intro vs n h
    cases n with
    | zero => simpa using h
    | succ n =>
      cases vs with
      | nil => cases h
      | cons v vs =>
        obtain ⟨f1, f2, hf, h1, h2⟩ := h.cons_inv
        obtain ⟨rfl, rfl⟩ := List.append_eq_nil_iff.mp hf.symm
        simpa using ih n h2
theorem Owns.take_ : ∀ {es : List D} {vs : List V} (n : Nat), Owns K mg G H vs es [] → Owns K mg G H (vs.take n) (es.take n) [] := by
  intro es
  induction es with
  | nil => intro vs n h; have := h.length; have : vs = [] := List.eq_nil_of_length_eq_zero this; subst this; simpa using h
  | cons d es ih =>
    intro vs n h
    cases n with
    | zero => simpa using Owns.nil
    | succ n =>
      cases vs with
      | nil => cases h
      | cons v vs =>
        obtain ⟨f1, f2, hf, h1, h2⟩ := h.cons_inv
        obtain ⟨rfl, rfl⟩ := List.append_eq_nil_iff.mp hf.symm
        simpa using h1.append (ih n h2)
theorem Owns.cut (h : Owns K mg G H vs es []) (lo hi : Option Int) : Owns K mg G H (cutV vs lo hi) (cutL es lo hi) [] := by
  unfold cutV cutL
  rw [h.length]
  exact (h.drop_ _).take_ _
theorem tm_sl {m : ME} {lo hi : MO} (h : tm K mg (mSl m lo hi) σ H Q) : tSl (fun x lo hi H Q => rSlL K x lo hi H Q ∨ (rSlA K x lo hi H Q ∨ rSlS x lo hi H Q)) (tm K mg m) (to K mg lo) (to K mg hi) σ H Q := by
  obtain ⟨G, ds, f, d, ds', gh, o, n, e, k⟩ := h
  unfold mSl at e
  split at e
  · rename_i d0 ds1 e1
    split at e
    · rename_i hcl
      split at e
      · rename_i l ds2 e2
        split at e
        · rename_i hh ds3 e3
          split at e
          · rename_i d1 e4
            cases e
            refine ⟨G, ds, f, d0, ds1, gh, o, n, e1, fun v G1 H1 p1 => ?_⟩
            obtain ⟨f1, f2, x1, o1, q1, n1⟩ := p1
            have := q1.clean (clean_sing hcl)
            subst this
            have x1' : Ext f G H f1 G1 H1 := by simpa using x1
            refine ⟨G1, ds1, f1, l, ds2, x1.gh, o1, (List.nodup_append.mp n1).1, e2, fun G2 H2 p2 => ?_⟩
            obtain ⟨f3, f4, x2, o2, q2, n2⟩ := p2
            cases q2
            have x2' : Ext f1 G1 H1 f3 G2 H2 := by simpa using x2
            refine ⟨G2, ds2, f3, hh, _, x2.gh, o2, (List.nodup_append.mp n2).1, e3, fun G3 H3 p3 => ?_⟩
            obtain ⟨f5, f6, x3, o3, q3, n3⟩ := p3
            cases q3
            have x3' : Ext f3 G2 H2 f5 G3 H3 := by simpa using x3
            have xx : Ext f G H (f5 ++ []) G3 H3 := by simpa using (x1'.trans x2').trans x3'
            have n3' : (f5 ++ ([] : List Addr)).Nodup := n3
            have w : Owns K mg G3 H3 [v] [d0] [] := q1.frame (x2'.gg.trans x3'.gg) (fun _ h => by cases h)
            have fin : ∀ {z : V} {G4 H4 : Hp}, VPst K mg [] G3 H3 [z] [d] G4 H4 → Q z H4 := fun p => k _ _ _ (Pst.map xx o3 n3' p)
            unfold dCut at e4
            split at e4
            · split at e4
              · rename_i oo es c
                cases e4
                obtain ⟨a, xs, f', rfl, hs, w1, s1, _⟩ := w.lst_inv x3.gh
                have : f' = [] := w1.clean c
                subst this
                exact .inl ⟨a, xs, rfl, hs, fun p hp => fin (VPst.newL x3.gh (w1.cut l hh) (by simp) List.nodup_nil hp)⟩
              · cases e4
            · split at e4
              · rename_i es c
                cases e4
                obtain ⟨a, xs, rfl, hs, hs0, w1⟩ := w.tup_inv x3.gh
                refine .inr (.inl ⟨a, xs, rfl, hs, fun hw => ?_, fun hw p hp => fin (VPst.newT x3.gh (w1.cut l hh) (by simp) List.nodup_nil hp)⟩)
                have : cutL es l hh = es := by
                  unfold cutL
                  rw [w1.length] at hw
                  rw [hw.1, hw.2]
                  simp
                rw [this] at fin
                exact fin (VPst.same x3.gh w (by simp) List.nodup_nil)
              · cases e4
            · split at e4
              · rename_i z c
                cases e4
                obtain ⟨rfl, _⟩ := w.v_inv
                exact .inr (.inr ⟨_, rfl, line ▸ c, fin (VPst.val x3.gh)⟩)
              · cases e4
            · cases e4
          · cases e
        · cases e
      · cases e
    · cases e
  · cases e
theorem xe_sl {e : Expr} {lo hi : Option Expr} {p2 : Pos} {m : ME} {ml mh : MO} (he : XE X e m) (hl : XO X lo ml) (hh : XO X hi mh) : XE X (.Subscript e (.Slice lo hi none p2) pos) (mSl m ml mh) :=
  PE.mono (pe_slice (sl_list.or (sl_tupA.or sl_str)) he hl hh) fun _ _ _ h => tm_sl h
/-! negation -/
def mNeg (m : ME) : ME := fun ds => match m ds with
  | some (.v (.int i), ds1) => some (.v (.int (-i)), ds1)
  | _ => none
theorem xe_neg (ha : XE X a ma) : XE X (.UnaryOp .USub a pos) (mNeg ma) := PE.mono (pe_un un_neg ha) fun σ H Q h => by
  obtain ⟨G, ds, f, d, ds', gh, o, n, e, k⟩ := h
  unfold mNeg at e
  split at e
  · rename_i i ds1 e1
    cases e
    refine ⟨G, ds, f, _, _, gh, o, n, e1, fun v G1 H1 p1 => ?_⟩
    obtain ⟨f1, f2, x1, o1, q1, n1⟩ := p1
    obtain ⟨rfl, rfl⟩ := q1.v_inv
    exact ⟨i, rfl, k _ G1 H1 ⟨f1, [], x1, o1, .v .nil, n1⟩⟩
  · cases e
end
/-! ### the law's own end -/
def fxOf (l : List Nat) : Nat → Bool := fun i => l.contains i
def intsD (ns : List Int) : List D := ns.map fun i => .v (.int i)
theorem ints_own {K : KW} {mg : Str → Option Value} {G H : Hp} : ∀ ns : List Int, Owns K mg G H (ns.map V.int) (intsD ns) []
  | [] => .nil
  | n :: ns => .v (ints_own ns)
theorem law_sp {K : KW} {mg : Str → Option Value} {F : List D → Option (D × DS)} {a : Addr} {ns : List Int} {H : Hp} {Q : VK} {E : XK} (hS : SqL K H a (ns.map V.int)) (hF : ∃ os, F [.lst .ext (intsD ns)] = some (.v (.bl true), os)) (k : ∀ H', Q (.bl true) H') : spF K mg 1 F [.ref a] H Q E := by
  obtain ⟨os, hF⟩ := hF
  refine ⟨rfl, H, [.lst .ext (intsD ns)], [], _, os, Same.refl H, .el (f1 := []) (f2 := []) hS (ints_own ns) .nil, List.nodup_nil, hF, fun v G' H' p => ?_⟩
  obtain ⟨f1, f2, x1, o1, q1, n1⟩ := p
  obtain ⟨rfl, _⟩ := q1.v_inv
  exact k H'
end Z
namespace Z
open PySem PySem.Spec L2
theorem hu65 {A : Around} {k : Nat} (hr : Room k A) : A.units + 65 < cLine := by have := hr.un; omega
section
variable {K : KW} {mg : Str → Option Value} {f f1 f2 : List Addr} {G H G1 H1 G2 H2 : Hp} {σ : L2.St} {ds ds1 ds2 : DS} {vs ws : List V} {es es2 : List D} {x y : V} {d e : D} {X : Cx} {Q : VK} {fx : Nat → Bool} {E : Ends}
def mRetN : MS := fun ds => some (.rt (.v .non) ds)
/-! a target of several names -/
def mAsgT (a : MG) (m : ME) : MS := fun ds => match m ds with
  | some (d, ds1) => if clean d then match a d ds1 with
    | some ds2 => some (.nx ds2)
    | none => none
    else none
  | none => none
/-! a, b = e1, e2 -/
def mPar (i j : Nat) (m : MA) : MS := fun ds => match m ds with
  | some ([d, e], ds1) => match setSlot i d ds1 with
    | some ds2 => match setSlot j e ds2 with
      | some ds3 => some (.nx ds3)
      | none => none
    | none => none
  | _ => none
/-! sum -/
/-! x.append(e): of the own list at slot i -/
def mAppend (i : Nat) (me : ME) : MS := fun ds => match ds[i]? with
  | some (some (.lst _ _)) => match me ds with
    | some (d, ds1) => match ds1[i]? with
      | some (some (.lst .own es)) => if es.length < 10000000 then some (.nx (ds1.set i (some (.lst .own (es ++ [d]))))) else none
      | _ => none
    | none => none
  | _ => none
theorem ts_append {i : Nat} {me : ME} (h : ts K mg fx (mAppend i me) E σ H) : tDrop (tBM K "list" rAppend (tVar i) (tCons (tm K mg me) tNil)) E σ H := by
  obtain ⟨G, ds, f, out, gh, o, n, e, k⟩ := h
  unfold mAppend at e
  split at e
  · rename_i oo es0 h0
    obtain ⟨v, _, _, _, rfl, hv, ho0, _⟩ := o.split h0
    obtain ⟨a0, xs0, _, rfl, eH0, _, _, _⟩ := ho0.lst_inv gh
    split at e
    · rename_i d ds1 e1
      split at e
      · rename_i es h2
        split at e
        · rename_i hsz
          cases e
          refine ⟨_, hv, .inl ⟨rfl, xs0, eH0⟩, G, ds, _, d, ds1, gh, o, n, e1, fun y G2 H2 p2 => ?_⟩
          obtain ⟨g1, g2, x2, o2, q2, n2⟩ := p2
          obtain ⟨v', fa, fb, fc, rfl, hv', ho, kk2⟩ := o2.split h2
          rw [hv] at hv'; cases hv'
          obtain ⟨a, xs, f', hva, eH, eG, w, rfl⟩ := ho.own_inv
          cases hva
          have hd : ∀ p, p ∈ fa ∨ p ∈ fc ∨ p ∈ f' ∨ p ∈ g2 → p ≠ a0 := by
            intro p hp z
            subst z
            simp only [List.nodup_append, List.mem_append, List.nodup_cons, List.mem_cons] at n2
            rcases hp with hp | hp | hp | hp
            · exact n2.1.1.2.2 p hp p (.inl rfl) rfl
            · exact n2.1.2.2 p (.inr (.inl rfl)) p hp rfl
            · exact n2.1.1.2.1.1 hp
            · exact n2.2.2 p (.inl (.inr (.inl rfl))) p hp rfl
          have hk : ∀ p, p ≠ a0 → ∀ u, H2 p = some u → upd H2 a0 (.lst (xs ++ [y])) p = some u := fun p hp u e => by rw [upd_ne hp]; exact e
          have w4 : Owns K mg G2 (upd H2 a0 (.lst (xs ++ [y]))) (xs ++ [y]) (es ++ [d]) (f' ++ g2) := (w.append q2).frame (Same.refl G2) fun p hp => ⟨hk p (hd p (by rcases List.mem_append.mp hp with h | h <;> simp [h])), ((w.append q2).here p hp).2⟩
          have hgh : Same G2 (upd H2 a0 (.lst (xs ++ [y]))) := fun p u e => hk p (fun z => by subst z; rw [eG] at e; cases e) u (x2.gh p u e)
          obtain ⟨_, k2⟩ := kk2 G2 (upd H2 a0 (.lst (xs ++ [y]))) (Same.refl G2) fun p hp => ⟨hk p (hd p (by rcases hp with h | h <;> simp [h])), (o2.here p (by rcases hp with h | h <;> simp [h])).2⟩
          have o5 := k2 _ _ (Owns.ol upd_same eG w4 .nil)
          refine ⟨a0, xs, y, rfl, rfl, eH, by rw [w.length, sizeLine_eq]; omega, k σ (FixS.refl _ _) G2 _ ⟨_, [], ?_, o5, .nil, ?_⟩⟩
          · refine ⟨hgh, x2.gg, fun p u e hp => ?_, fun p hp => ?_, x2.gn⟩
            · refine hk p (fun z => ?_) u (x2.keep p u e hp)
              subst z
              rcases x2.fpn p (by simp) with h | h
              · exact hp h
              · rw [h] at e; cases e
            · refine x2.fpn p ?_
              simp only [List.mem_append, List.mem_cons, List.append_nil] at hp ⊢
              rcases hp with (h | h | h | h) | h <;> simp [h]
          · simp only [List.nodup_append, List.mem_append, List.nodup_cons, List.mem_cons, List.append_nil] at n2 ⊢
            refine ⟨⟨n2.1.1.1, ⟨fun h => hd a0 (by rcases h with h | h <;> simp [h]) rfl, n2.1.1.2.1.2, n2.2.1, fun p hp q hq z => n2.2.2 p (.inl (.inr (.inr hp))) q hq z⟩, fun p hp q hq z => ?_⟩, n2.1.2.1, fun p hp q hq z => ?_⟩
            · rcases hq with hq | hq | hq
              · exact hd p (.inl hp) (z.trans hq)
              · exact n2.1.1.2.2 p hp q (.inr hq) z
              · exact n2.2.2 p (.inl (.inl hp)) q hq z
            · rcases hp with hp | hp | hp | hp
              · exact n2.1.2.2 p (.inl hp) q hq z
              · exact hd q (.inr (.inl hq)) (z.symm.trans hp)
              · exact n2.1.2.2 p (.inr (.inr hp)) q hq z
              · exact n2.2.2 q (.inr hq) p hp z.symm
        · cases e
      · cases e
    · cases e
  · cases e
theorem xs_append (i : Nat) {nm : Str} {p apos cpos pos : Pos} {e : Expr} {me : ME} (he : XE X e me) (hN : X.N[i]? = some nm := by rfl) (hv : Vis X.env.scope nm := by first | exact Or.inl rfl | exact Or.inr (Or.inl rfl) | exact Or.inr (Or.inr rfl)) (hd : (nm == ("__debug__" : Str)) = false := by decide) (hcd : (nm == ("__classdict__" : Str)) = false := by decide)
    (hse : starEach [e] X.env = (false, eval e X.env) :: starEach [] X.env := by rfl)
    (hbase : attributeBase (.Name nm p) "append" X.env (eval (.Name nm p) X.env) = eval (.Name nm p) X.env := by rfl) (hfew : ((backTo cpos (starEach [e] X.env)).all (fun x => !x.1) && (backToKw cpos (keywordEach [] X.env)).all (fun x => x.1.isSome) && decide (([e] : List Expr).length + ([] : List Keyword).length + (if ([] : List Keyword).isEmpty then 0 else 1) < 30)) = true := by rfl) (hline : (apos.endLine == cpos.line) = true := by rfl) (hplain : (backTo cpos (starEach [] X.env)).any (·.1) = false := by rfl)
    (hsw : swapsWith (.Call (.Attribute (.Name nm p) "append" apos) [e] [] cpos) none pos.line X.env = pure false := by rfl) : XS X fx (.Expr (.Call (.Attribute (.Name nm p) "append" apos) [e] [] cpos) pos) (mAppend i me) :=
  PS.mono (ps_expr (pe_bm PySem.F.plainAttrs_list PySem.F.slot_list_append PySem.F.type_list_append mt_append (pe_var hN hv hd hcd) (pa_cons he pa_nil hse) hbase hfew hline hse hplain) hsw) fun _ _ _ h => ts_append h
end
end Z
namespace Z
open PySem PySem.Spec L2
theorem ok_def' {P : Program} {w : World} {K : PySem.W.Frag} {mg : Str → Option Value} {base : Heap} {x qual : Str} {st : Stmt} {f : Addr} {fd : FuncData} {N ps : List Str} {k np n : Nat} {fx : Nat → Bool} {m : MS} {F' : List D → Option (D × DS)} (hF : F' = fnM np n fx m) (hp : ps.length = np) (hn : N.length = n) (F : Fun K x qual st f fd) (S : FnScope N ps (defScope st))
    (hb : ∀ (cdv : Value) (A : Around) (outer : List Env) (s : Shared) (H : Hp) (E : XK), Room k (A.deeper (PyProof.Rows.envOfC qual (defScope st) s.heap.objs.size f cdv)) → XB (cxOf CX0 P w K mg base N qual (defScope st) f cdv A outer s H E).nox fx (defBody st) m) :
    FnOk P w K mg base CX0 (k + 1) f fd ps (spF ⟨K, w⟩ mg np F') := by
  subst hF; subst hp; subst hn
  exact ok_def F S hb
end Z
namespace Z
open PySem PySem.Spec L2
section
variable {K : KW} {mg : Str → Option Value}
theorem kv_tup {nm : Str} {a : Addr} {od : Option Addr} {its : List Value} {n : Nat} {sl : Array (Option Value)} {xs : List V} {ds : List D} (hm : mg nm = some (.ref a)) (l : K.k.lookup a = some ⟨.type "tuple", od, .seq its.toArray n, sl⟩) (hs : its.length ≤ 16777216) (hv : Vals xs its) (ho : ∀ G H, Owns K mg G H xs ds []) : KV K mg nm (.ktp ds) :=
  ⟨.ref a, _, hm, rfl, fun G H => by
    have := Owns.kt (K := K) (mg := mg) (G := G) (H := H) (a := a) (f1 := []) (f2 := []) (.inr ⟨_, its.toArray, n, l, rfl, rfl, by simpa using line ▸ hs, by simpa using hv⟩) (ho G H) .nil
    exact this⟩
end
end Z
namespace Z
open PySem PySem.Spec L2
def spLaw (K : PySem.W.Frag) : Sp := fun vs H Q _ => ∃ (a : Addr) (ns : List Int), vs = [.ref a] ∧ SqL K H a (ns.map V.int) ∧ ns.length ≤ 63 ∧ ∀ H', Q (.bl true) H'
theorem law_fn {P : Program} {w : World} {K : PySem.W.Frag} {mg : Str → Option Value} {base : Heap} {CX : CXT} {k : Nat} {f : Addr} {fd : FuncData} {ps : List Str} {F : List D → Option (D × DS)} (h : FnOk P w K mg base CX k f fd ps (spF ⟨K, w⟩ mg 1 F)) (t : ∀ ns : List Int, ns.length ≤ 63 → ∃ os, F [.lst .ext (intsD ns)] = some (.v (.bl true), os)) : FnOk P w K mg base CX k f fd ps (spLaw K) :=
  h.imp fun vs H Q E ⟨a, ns, e, hS, hl, q⟩ => by subst e; exact law_sp hS (t ns hl) q
end Z
namespace Z
open PySem PySem.Spec L2
section
variable {K : KW} {mg : Str → Option Value} {f f1 f2 g1 g2 : List Addr} {G H G1 H1 G2 H2 : Hp} {σ : L2.St} {ds ds1 ds2 : DS} {vs ws : List V} {es es2 : List D} {x y : V} {d e : D} {X : Cx} {Q : VK} {fx : Nat → Bool} {E : Ends}
/-! ### built-ins on numbers -/
def dMin2 : List D → Option D
  | [.v (.int i), .v (.int j)] => some (.v (.int (if j < i then j else i)))
  | _ => none
def dMax2 : List D → Option D
  | [.v (.int i), .v (.int j)] => some (.v (.int (if j > i then j else i)))
  | _ => none
def dAbs : List D → Option D
  | [.v (.int i)] => some (.v (.int (if i < 0 then -i else i)))
  | _ => none
def dIntF : List D → Option D
  | [.v (.int i)] => some (.v (.int i))
  | [.v (.bl k)] => some (.v (.int (if k then 1 else 0)))
  | [.v (.str a)] => match PySem.intText? a with
    | some n => if a.length ≤ 640 then some (.v (.int n)) else none
    | none => none
  | _ => none
def dStrF : List D → Option D
  | [.v (.int i)] => if i.natAbs.log2 < 1920 then some (.v (.str (toString i))) else none
  | _ => none
theorem calld_intF : CallD K mg (fun xs H Q => ((∃ i, xs = [.int i] ∧ Q (.int i) H) ∨ ∃ k, xs = [.bl k] ∧ Q (.int (if k then 1 else 0)) H) ∨ ∃ a n, xs = [.str a] ∧ PySem.intText? a = some n ∧ a.length ≤ 640 ∧ Q (.int n) H) dIntF := by
  intro G H xs es d' f Q gh h n e k
  unfold dIntF at e
  split at e
  · cases e; obtain ⟨rfl, rfl⟩ := vals1 h; exact .inl (.inl ⟨_, rfl, k _ G H (VPst.val gh)⟩)
  · cases e; obtain ⟨rfl, rfl⟩ := vals1 h; exact .inl (.inr ⟨_, rfl, k _ G H (VPst.val gh)⟩)
  · split at e
    · rename_i m hm
      split at e
      · rename_i hl
        cases e; obtain ⟨rfl, rfl⟩ := vals1 h; exact .inr ⟨_, m, rfl, hm, hl, k _ G H (VPst.val gh)⟩
      · cases e
    · cases e
  · cases e
theorem callr_intF : CallR X (.type "int") (fun xs H Q => ((∃ i, xs = [.int i] ∧ Q (.int i) H) ∨ ∃ k, xs = [.bl k] ∧ Q (.int (if k then 1 else 0)) H) ∨ ∃ a n, xs = [.str a] ∧ PySem.intText? a = some n ∧ a.length ≤ 640 ∧ Q (.int n) H) := call_int1.or call_int_str
theorem calld_strF : CallD K mg (fun xs H Q => ∃ i : Int, xs = [.int i] ∧ i.natAbs.log2 < 1920 ∧ Q (.str (toString i)) H) dStrF := by
  intro G H xs es d' f Q gh h n e k
  unfold dStrF at e
  split at e
  · split at e
    · rename_i c
      cases e; obtain ⟨rfl, rfl⟩ := vals1 h; exact ⟨_, rfl, c, k _ G H (VPst.val gh)⟩
    · cases e
  · cases e
/-! all, any of a list of truths -/
/-! ### is None -/
def isN : D → Bool
  | .v .non => true
  | _ => false
def mIsN (b : Bool) (m : ME) : ME := fun ds => match m ds with
  | some (d, ds1) => some (.v (.bl (if b then isN d else !isN d)), ds1)
  | none => none
/-- a name: it stays as it is -/
def mIsNV (b : Bool) (i : Nat) : ME := fun ds => match ds[i]? with
  | some (some d) => some (.v (.bl (if b then isN d else !isN d)), ds)
  | _ => none
theorem Pst.toV (p : Pst K mg f G H σ ds vs es G1 H1) (x : V) : Pst K mg f G H σ ds [x] [.v x] G1 H1 := by
  obtain ⟨f1, f2, x1, o1, q1, n1⟩ := p
  exact ⟨f1, [], x1.less (by simp; intro p h; exact .inl h), o1, .v .nil, by simpa using (List.nodup_append.mp n1).1⟩
variable {a b c : Expr} {rest : List Expr} {pos : Pos} {ma mb mc : ME}
/-! is True, is False -/
/-! ### a < b <= c for ints -/
def mChn (p p' : Int → Int → Bool) (ma mb mc : ME) : ME := fun ds => match ma ds with
  | some (.v (.int i), ds1) => match mb ds1 with
    | some (.v (.int j), ds2) => if p i j = true then match mc ds2 with
        | some (.v (.int k), ds3) => some (.v (.bl (p' j k)), ds3)
        | _ => none
      else some (.v (.bl false), ds2)
    | _ => none
  | _ => none
theorem tm_chn {p p' : Int → Int → Bool} (h : tm K mg (mChn p p' ma mb mc) σ H Q) : tChain (rI0 fun i j => .bl (p i j)) (rI0 fun i j => .bl (p' i j)) (tm K mg ma) (tm K mg mb) (tm K mg mc) σ H Q := by
  obtain ⟨G, ds, f, d, ds', gh, o, n, e, k⟩ := h
  unfold mChn at e
  split at e
  · rename_i i ds1 e1
    split at e
    · rename_i j ds2 e2
      refine ⟨G, ds, f, _, ds1, gh, o, n, e1, fun v1 G1 H1 p1 => ?_⟩
      obtain ⟨f1, f2, x1, o1, q1, n1⟩ := p1
      obtain ⟨rfl, rfl⟩ := q1.v_inv
      refine ⟨G1, ds1, f1, _, ds2, x1.gh, o1, (List.nodup_append.mp n1).1, e2, fun v2 G2 H2 p2 => ?_⟩
      obtain ⟨f3, f4, x2, o2, q2, n2⟩ := p2
      obtain ⟨rfl, rfl⟩ := q2.v_inv
      refine ⟨i, j, rfl, rfl, p i j, rfl, ?_⟩
      split at e
      · rename_i hp
        rw [if_pos hp]
        split at e
        · rename_i kk ds3 e3
          cases e
          refine ⟨G2, ds2, f3, _, _, x2.gh, o2, (List.nodup_append.mp n2).1, e3, fun v3 G3 H3 p3 => ?_⟩
          have p3' := Pst.nil_trans x1 (Pst.nil_trans x2 p3)
          obtain ⟨f5, f6, x3, o3, q3, n3⟩ := p3
          obtain ⟨rfl, rfl⟩ := q3.v_inv
          exact ⟨j, kk, rfl, rfl, k _ G3 H3 (p3'.toV _)⟩
        · cases e
      · rename_i hp
        cases e
        rw [if_neg hp]
        have : Pst K mg f1 G1 H1 σ ds' [] [] G2 H2 := ⟨f3, [], x2, o2, .nil, n2⟩
        exact k _ G2 H2 ((Pst.nil_trans x1 this).toV _)
    · cases e
  · cases e
abbrev leP : Int → Int → Bool := fun i j => decide (i ≤ j)
theorem xt_chn {op op' : CmpOp} {p p' : Int → Int → Bool} (ho : OpR X (compareOp op) (rI0 fun i j => .bl (p i j))) (ho' : OpR X (compareOp op') (rI0 fun i j => .bl (p' i j))) (ha : XE X a ma) (hb : XE X b mb) (hc : XE X c mc) (hm : lastMarks [op, op'] [b, c] = false := by with_unfolding_all rfl) : XT X (.Compare a [op, op'] [b, c] pos) (mTst (mChn p p' ma mb mc)) := PT.mono (pt_chain ho ho' ha hb hc hm) fun _ _ _ h => tt_tst (fun _ q => tm_chn q) h
/-! ### bits -/
/-! ### x[::-1] -/
def mRev (m : ME) : ME := fun ds => match m ds with
  | some (.lst _ es, ds1) => if cleans es then some (.lst .own es.reverse, ds1) else none
  | _ => none
/-! ### the own list at a slot is changed -/
theorem Pst.mutL {i : Nat} (x2 : Ext f G H (g1 ++ g2) G2 H2) (o2 : OwnS K mg G2 H2 σ ds1 g1) (q2 : Owns K mg G2 H2 ws es2 g2) (n2 : (g1 ++ g2).Nodup) (h2 : ds1[i]? = some (some (.lst .own es))) :
    ∃ a xs f', σ[i]? = some (some (.ref a)) ∧ H2 a = some (.lst xs) ∧ Owns K mg G2 H2 xs es f' ∧ (f' ++ g2).Nodup ∧
      ∀ {xs' : List V} {es' : List D} {f'' : List Addr} {vs3 : List V} {es3 : List D} {f3 : List Addr}, Owns K mg G2 H2 xs' es' f'' → Owns K mg G2 H2 vs3 es3 f3 → (f'' ++ f3).Nodup → (∀ p ∈ f'' ++ f3, p ∈ f' ++ g2) → Pst K mg f G H σ (ds1.set i (some (.lst .own es'))) vs3 es3 G2 (upd H2 a (.lst xs')) := by
  obtain ⟨v', fa, fb, fc, rfl, hv', ho, kk2⟩ := o2.split h2
  obtain ⟨a, xs, f', rfl, eH, eG, w, rfl⟩ := ho.own_inv
  refine ⟨a, xs, f', hv', eH, w, ?_, fun {xs' es' f'' vs3 es3 f3} w' w3 n3 s3 => ?_⟩
  · simp only [List.nodup_append, List.mem_append, List.nodup_cons, List.mem_cons] at n2 ⊢
    exact ⟨n2.1.1.2.1.2, n2.2.1, fun p hp q hq z => n2.2.2 p (.inl (.inr (.inr hp))) q hq z⟩
  · have hd : ∀ p, p ∈ fa ∨ p ∈ fc ∨ p ∈ f' ∨ p ∈ g2 → p ≠ a := by
      intro p hp z
      subst z
      simp only [List.nodup_append, List.mem_append, List.nodup_cons, List.mem_cons] at n2
      rcases hp with hp | hp | hp | hp
      · exact n2.1.1.2.2 p hp p (.inl rfl) rfl
      · exact n2.1.2.2 p (.inr (.inl rfl)) p hp rfl
      · exact n2.1.1.2.1.1 hp
      · exact n2.2.2 p (.inl (.inr (.inl rfl))) p hp rfl
    have hd3 : ∀ p, p ∈ f'' ++ f3 → p ≠ a := fun p hp => hd p (by have := s3 p hp; simp only [List.mem_append] at this; rcases this with h | h <;> simp [h])
    have hk : ∀ p, p ≠ a → ∀ u, H2 p = some u → upd H2 a (.lst xs') p = some u := fun p hp u e => by rw [upd_ne hp]; exact e
    have w4 : Owns K mg G2 (upd H2 a (.lst xs')) xs' es' f'' := w'.frame (Same.refl G2) fun p hp => ⟨hk p (hd3 p (List.mem_append_left _ hp)), (w'.here p hp).2⟩
    have w5 : Owns K mg G2 (upd H2 a (.lst xs')) vs3 es3 f3 := w3.frame (Same.refl G2) fun p hp => ⟨hk p (hd3 p (List.mem_append_right _ hp)), (w3.here p hp).2⟩
    have hgh : Same G2 (upd H2 a (.lst xs')) := fun p u e => hk p (fun z => by subst z; rw [eG] at e; cases e) u (x2.gh p u e)
    obtain ⟨_, k2⟩ := kk2 G2 (upd H2 a (.lst xs')) (Same.refl G2) fun p hp => ⟨hk p (hd p (by rcases hp with h | h <;> simp [h])), (o2.here p (by rcases hp with h | h <;> simp [h])).2⟩
    have o5 := k2 _ _ (Owns.ol upd_same eG w4 .nil)
    refine ⟨_, f3, ?_, o5, w5, ?_⟩
    · refine ⟨hgh, x2.gg, fun p u e hp => ?_, fun p hp => ?_, x2.gn⟩
      · refine hk p (fun z => ?_) u (x2.keep p u e hp)
        subst z
        rcases x2.fpn p (by simp) with h | h
        · exact hp h
        · rw [h] at e; cases e
      · refine x2.fpn p ?_
        simp only [List.mem_append, List.mem_cons, List.append_nil] at hp s3 ⊢
        rcases hp with ((h | h | h) | h) | h
        · simp [h]
        · simp [h]
        · rcases s3 p (.inl h) with h | h <;> simp [h]
        · simp [h]
        · rcases s3 p (.inr h) with h | h <;> simp [h]
    · simp only [List.nodup_append, List.mem_append, List.nodup_cons, List.mem_cons, List.append_nil] at n2 n3 s3 hd3 ⊢
      refine ⟨⟨⟨n2.1.1.1, ⟨fun h => hd3 a (.inl h) rfl, n3.1⟩, fun p hp q hq z => ?_⟩, n2.1.2.1, fun p hp q hq z => ?_⟩, n3.2.1, fun p hp q hq z => ?_⟩
      · rcases hq with hq | hq
        · exact hd p (.inl hp) (z.trans hq)
        · rcases s3 q (.inl hq) with h | h
          · exact n2.1.1.2.2 p hp q (.inr h) z
          · exact n2.2.2 p (.inl (.inl hp)) q h z
      · rcases hp with hp | hp | hp
        · exact n2.1.2.2 p (.inl hp) q hq z
        · exact hd q (.inr (.inl hq)) (z.symm.trans hp)
        · rcases s3 p (.inl hp) with h | h
          · exact n2.1.2.2 p (.inr (.inr h)) q hq z
          · exact n2.2.2 q (.inr hq) p h z.symm
      · rcases hp with (hp | hp | hp) | hp
        · rcases s3 q (.inr hq) with h | h
          · exact n2.1.1.2.2 p hp q (.inr h) z
          · exact n2.2.2 p (.inl (.inl hp)) q h z
        · exact hd3 q (.inr hq) (z.symm.trans hp)
        · exact n3.2.2 p hp q hq z
        · rcases s3 q (.inr hq) with h | h
          · exact n2.1.2.2 q (.inr (.inr h)) p hp z.symm
          · exact n2.2.2 p (.inr hp) q h z
/-! x.extend(e) -/
def mExtend (i : Nat) (me : ME) : MS := fun ds => match ds[i]? with
  | some (some (.lst _ _)) => match me ds with
    | some (.lst o2 zs, ds1) => match ds1[i]? with
      | some (some (.lst .own es)) => if o2 ≠ .ext ∧ es.length + zs.length < 10000000 then some (.nx (ds1.set i (some (.lst .own (es ++ zs))))) else none
      | _ => none
    | _ => none
  | _ => none
/-! x.pop() as a value -/
def mPop (i : Nat) : ME := fun ds => match ds[i]? with
  | some (some (.lst .own es)) => match es[es.length - 1]? with
    | some d => some (d, ds.set i (some (.lst .own es.dropLast)))
    | none => none
  | _ => none
theorem Owns.snoc_inv : ∀ {es : List D} {vs : List V} {f : List Addr} {d : D}, Owns K mg G H vs es f → es[es.length - 1]? = some d → ∃ v f1 f2, vs[vs.length - 1]? = some v ∧ f = f1 ++ f2 ∧ Owns K mg G H vs.dropLast es.dropLast f1 ∧ Owns K mg G H [v] [d] f2 := by
  intro es
  induction es with
  | nil => intro vs f d h e; simp at e
  | cons d0 es ih =>
    intro vs f d h e
    cases vs with
    | nil => cases h
    | cons v vs =>
      obtain ⟨f1, f2, rfl, h1, h2⟩ := h.cons_inv
      cases es with
      | nil =>
        have := h2.length
        have : vs = [] := List.eq_nil_of_length_eq_zero this
        subst this
        cases h2
        have : d0 = d := by simpa using e
        subst this
        exact ⟨v, [], f1, rfl, by simp, .nil, h1⟩
      | cons d1 es =>
        cases vs with
        | nil => cases h2
        | cons v1 vs =>
          obtain ⟨w, g1, g2, e1, rfl, e3, e4⟩ := ih (d := d) h2 (by simpa using e)
          exact ⟨w, f1 ++ g1, g2, by simpa using e1, by simp, h1.append e3, e4⟩
theorem tm_pop {i : Nat} (h : tm K mg (mPop i) σ H Q) : tBM0 K "list" rPop (tVar i) σ H Q := by
  obtain ⟨G, ds, f, d, ds', gh, o, n, e, k⟩ := h
  unfold mPop at e
  split at e
  · rename_i es h2
    split at e
    · rename_i d1 e1
      cases e
      obtain ⟨a, xs, f', hv', eH, w, nn, fin⟩ := Pst.mutL (f := f) (g1 := f) (g2 := []) (by simpa using Ext.refl gh f) o (ws := []) (es2 := []) .nil (by simpa using n) h2
      obtain ⟨v, f3, f4, ev, rfl, w3, w4⟩ := w.snoc_inv e1
      refine ⟨_, hv', .inl ⟨rfl, xs, .inl (.inl eH)⟩, a, xs, v, rfl, rfl, eH, ev, k v G _ (fin w3 w4 (by simpa using nn) (by intro p hp; simpa using hp))⟩
    · cases e
  · cases e
theorem xe_pop (i : Nat) {nm : Str} {p apos cpos : Pos} (hN : X.N[i]? = some nm := by rfl) (hv : Vis X.env.scope nm := by first | exact Or.inl rfl | exact Or.inr (Or.inl rfl) | exact Or.inr (Or.inr rfl)) (hd : (nm == ("__debug__" : Str)) = false := by decide) (hcd : (nm == ("__classdict__" : Str)) = false := by decide)
    (hbase : attributeBase (.Name nm p) "pop" X.env (eval (.Name nm p) X.env) = eval (.Name nm p) X.env := by rfl) (hline : (apos.endLine == cpos.line) = true := by rfl) : XE X (.Call (.Attribute (.Name nm p) "pop" apos) [] [] cpos) (mPop i) :=
  PE.mono (pe_bm0 PySem.F.plainAttrs_list PySem.F.slot_list_pop PySem.F.type_list_pop mt_pop (pe_var hN hv hd hcd) hbase hline) fun _ _ _ h => tm_pop h
/-! x.clear() -/
def mClear (i : Nat) : MS := fun ds => match ds[i]? with
  | some (some (.lst .own _)) => some (.nx (ds.set i (some (.lst .own []))))
  | _ => none
end
end Z
namespace Z
open PySem PySem.Spec L2
theorem PE.or {X : Cx} {e : Expr} {t t' : TE} (h : PE X e t) (h' : PE X e t') : PE X e (fun σ H Q => t σ H Q ∨ t' σ H Q) :=
  ⟨fun pins s σ H Q I q => q.elim (h.run pins s σ H Q I) (h'.run pins s σ H Q I)⟩
theorem PT.or {X : Cx} {e : Expr} {t t' : TT} (h : PT X e t) (h' : PT X e t') : PT X e (fun σ H Q => t σ H Q ∨ t' σ H Q) :=
  ⟨fun pins s σ H Q I q => q.elim (h.run pins s σ H Q I) (h'.run pins s σ H Q I)⟩
theorem PS.or {X : Cx} {e : Stmt} {t t' : TS} (h : PS X e t) (h' : PS X e t') : PS X e (fun D σ H => t D σ H ∨ t' D σ H) :=
  ⟨fun pins s σ H D I q => q.elim (h.run pins s σ H D I) (h'.run pins s σ H D I)⟩
section
variable {κ : Type} [DecidableEq κ]
def hasK (ks : List κ) (k : κ) : Bool := decide (k ∈ ks)
def getD_ : List κ → List D → κ → Option D
  | k0 :: ks, d :: ds, k => if k0 = k then some d else getD_ ks ds k
  | _, _, _ => none
def repD : List κ → List D → κ → D → List D
  | k0 :: ks, e :: es, k, d => (if k0 = k then d else e) :: repD ks es k d
  | _, es, _, _ => es
def putD (ks : List κ) (es : List D) (k : κ) (d : D) : Option (List κ × List D) :=
  if k ∈ ks then (if clean d then some (ks, repD ks es k d) else none) else some (ks ++ [k], es ++ [d])
def mergeD (ks : List κ) (es : List D) : List (κ × D) → Option (List κ × List D)
  | [] => some (ks, es)
  | (k, d) :: r => match putD ks es k d with
    | some (ks', es') => mergeD ks' es' r
    | none => none
end
def dKey : D → Option Key
  | .v (.int i) => some (.inl i)
  | .v (.str s) => some (.inr s)
  | _ => none
section
variable {K : KW} {mg : Str → Option Value} {f f1 f2 g1 g2 : List Addr} {G H G1 H1 G2 H2 : Hp} {σ : L2.St} {ds ds1 ds2 : DS} {vs ws : List V} {es es2 : List D} {x y : V} {d e : D} {X : Cx} {Q : VK} {fx : Nat → Bool} {E : Ends}
theorem dKey_own (h : Owns K mg G H [x] [d] f) {k : Key} (e : dKey d = some k) : x = kV k ∧ f = [] := by
  unfold dKey at e
  split at e
  · cases e; exact h.v_inv
  · cases e; exact h.v_inv
  · cases e
theorem Owns.dic_inv {o : O} {ks : List Key} (h : Owns K mg G H [x] [.dic o ks es] f) (g : Same G H) : ∃ a kvs f', x = .ref a ∧ Rd H a (.dK kvs) ∧ kvs.map (·.1) = ks ∧ Owns K mg G H (kvs.map (·.2)) es f' ∧ (∀ p ∈ f', p ∈ f) ∧ (f.Nodup → f'.Nodup) := by
  cases h with
  | fd e e2 w n => cases n; exact ⟨_, _, _, rfl, .inl (g _ _ e), e2, w, by simp, by simp⟩
  | xd e e2 w n => cases n; exact ⟨_, _, _, rfl, .inr ⟨_, g _ _ e⟩, e2, w, by simp, by simp⟩
  | od e eg e2 w n => cases n; exact ⟨_, _, _, rfl, .inl e, e2, w, fun p hp => by simp [hp], fun n => by simpa using (List.nodup_cons.mp n).2⟩
section
variable {κ : Type} [DecidableEq κ]
theorem Owns.getS {k : κ} {d : D} : ∀ {kvs : List (κ × V)} {es : List D} {f : List Addr}, Owns K mg G H (kvs.map (·.2)) es f → getD_ (kvs.map (·.1)) es k = some d → ∃ v f', valV kvs k = some v ∧ Owns K mg G H [v] [d] f' ∧ (∀ p ∈ f', p ∈ f) ∧ (f.Nodup → f'.Nodup) := by
  intro kvs
  induction kvs with
  | nil => intro es f h e; simp [getD_] at e
  | cons kv kvs ih =>
    intro es f h e
    cases es with
    | nil => simp [getD_] at e
    | cons d0 es =>
      obtain ⟨f1, f2, rfl, h1, h2⟩ := Owns.cons_inv h
      simp only [List.map_cons, getD_] at e
      split at e
      · rename_i hk
        cases e
        exact ⟨kv.2, f1, valV_pos hk, h1, fun p hp => List.mem_append_left _ hp, fun n => (List.nodup_append.mp n).1⟩
      · rename_i hk
        obtain ⟨v, f', a, b, c, n⟩ := ih h2 e
        exact ⟨v, f', (valV_neg hk).trans a, b, fun p hp => List.mem_append_right _ (c p hp), fun nn => n (List.nodup_append.mp nn).2.1⟩
theorem valV_in {k : κ} : ∀ {kvs : List (κ × V)}, (valV kvs k).isSome = decide (k ∈ kvs.map (·.1)) := by
  intro kvs
  induction kvs with
  | nil => simp [valV_nil]
  | cons kv kvs ih =>
    by_cases h : kv.1 = k
    · rw [valV_pos h]; simp [h]
    · rw [valV_neg h, ih]
      simp only [List.map_cons, List.mem_cons, decide_eq_decide]
      exact ⟨.inr, fun q => q.elim (fun z => absurd z.symm h) id⟩
theorem putK_in {kvs : List (κ × V)} {k : κ} {v : V} (h : k ∈ kvs.map (·.1)) : putK kvs k v = kvs.map fun kv => if kv.1 = k then (kv.1, v) else kv := by
  unfold putK
  rw [if_pos]
  rw [valV_any, valV_in]
  exact decide_eq_true h
theorem Owns.rep {k : κ} {v : V} {d : D} (hv : Owns K mg G H [v] [d] []) : ∀ {kvs : List (κ × V)} {es : List D} {f : List Addr}, Owns K mg G H (kvs.map (·.2)) es f → ∃ f', Owns K mg G H ((kvs.map fun kv => if kv.1 = k then (kv.1, v) else kv).map (·.2)) (repD (kvs.map (·.1)) es k d) f' ∧ (∀ p ∈ f', p ∈ f) ∧ (f.Nodup → f'.Nodup) := by
  intro kvs
  induction kvs with
  | nil =>
    intro es f h
    cases es with
    | nil => exact ⟨f, h, fun p hp => hp, id⟩
    | cons d0 es => cases h
  | cons kv kvs ih =>
    intro es f h
    cases es with
    | nil => have := h.length; simp at this
    | cons d0 es =>
      obtain ⟨f1, f2, rfl, h1, h2⟩ := Owns.cons_inv h
      obtain ⟨f', a, b, c⟩ := ih h2
      simp only [List.map_cons, repD]
      by_cases hk : kv.1 = k
      · simp only [hk, if_true]
        exact ⟨f', by simpa using hv.append a, fun p hp => List.mem_append_right _ (b p hp), fun n => c (List.nodup_append.mp n).2.1⟩
      · simp only [hk, if_false]
        refine ⟨f1 ++ f', by simpa using h1.append a, fun p hp => ?_, fun n => ?_⟩
        · rcases List.mem_append.mp hp with hp | hp
          · exact List.mem_append_left _ hp
          · exact List.mem_append_right _ (b p hp)
        · have nn := List.nodup_append.mp n
          exact List.nodup_append.mpr ⟨nn.1, c nn.2.1, fun p hp q hq => nn.2.2 p hp q (b q hq)⟩
theorem map_fst_rep {kvs : List (κ × V)} {k : κ} {v : V} : (kvs.map fun kv => if kv.1 = k then (kv.1, v) else kv).map (·.1) = kvs.map (·.1) := by
  rw [List.map_map]
  apply List.map_congr_left
  intro p _
  simp only [Function.comp]
  split <;> rfl
theorem Owns.put {kvs : List (κ × V)} {k : κ} {v : V} {d : D} {ks' : List κ} {es' : List D} (h : Owns K mg G H (kvs.map (·.2)) es f) (hv : Owns K mg G H [v] [d] g1) (n : (f ++ g1).Nodup) (e : putD (kvs.map (·.1)) es k d = some (ks', es')) :
    (putK kvs k v).map (·.1) = ks' ∧ ∃ f', Owns K mg G H ((putK kvs k v).map (·.2)) es' f' ∧ f'.Nodup ∧ ∀ p ∈ f', p ∈ f ++ g1 := by
  unfold putD at e
  split at e
  · rename_i hk
    split at e
    · rename_i c
      cases e
      have := hv.clean (clean_sing c)
      subst this
      rw [putK_in hk]
      obtain ⟨f', a, b, m⟩ := Owns.rep (k := k) hv h
      exact ⟨map_fst_rep, f', a, m (List.nodup_append.mp n).1, fun p hp => List.mem_append_left _ (b p hp)⟩
    · cases e
  · rename_i hk
    cases e
    have hn : valV kvs k = none := by
      cases hc : valV kvs k with
      | none => rfl
      | some w => have := valV_in (k := k) (kvs := kvs); rw [hc] at this; simp at this; exact absurd this (by simpa using hk)
    rw [putK_new v hn]
    refine ⟨by simp, f ++ g1, ?_, n, fun p hp => hp⟩
    simpa using h.append hv
end
/-! ### x[k], k in x: of the name in slot i, a dict -/
def dKx : D → D → Option D
  | .dic _ ks es, e => match dKey e with
    | some k => getD_ ks es k
    | none => none
  | _, _ => none
def rDx : R2 := fun x y H Q => ∃ a v, x = .ref a ∧ DGet H a y (some v) ∧ Q v H
theorem lookd_kx : LookD K mg rDx dKx := by
  intro G H x y d e d' f Q gh h1 h2 q c k
  unfold dKx at q
  split at q
  · split at q
    · rename_i kk hk
      obtain ⟨rfl, _⟩ := dKey_own h2 hk
      obtain ⟨a, kvs, f', rfl, e1, rfl, w, s1, m1⟩ := h1.dic_inv gh
      obtain ⟨v, f3, hv, w3, s3, m3⟩ := w.getS q
      have := w3.clean (clean_sing c)
      subst this
      exact ⟨a, v, rfl, .inl ⟨kvs, kk, e1, rfl, hv.symm⟩, k _ G H (Ext.refl gh []) w3⟩
    · cases q
  · cases q
/-- what slot i holds says whether it is looked up as a dict -/
def isDic : Option (Option D) → Bool
  | some (some (.dic _ _ _)) => true
  | _ => false
def mLookA (i : Nat) (mb : ME) : ME := fun ds => match isDic ds[i]? with
  | true => mLook i dKx mb ds
  | false => mLook i dIx mb ds
theorem tm_lookA {i : Nat} {mb : ME} (h : tm K mg (mLookA i mb) σ H Q) : tOp (rIx K) (tVar i) (tm K mg mb) σ H Q ∨ tOp rDx (tVar i) (tm K mg mb) σ H Q := by
  obtain ⟨G, ds, f, d, ds', gh, o, n, e, k⟩ := h
  unfold mLookA at e
  split at e
  · exact .inr (tm_look lookd_kx ⟨G, ds, f, d, ds', gh, o, n, e, k⟩)
  · exact .inl (tm_look lookd_ix ⟨G, ds, f, d, ds', gh, o, n, e, k⟩)
theorem xe_ixa (i : Nat) {nm : Str} {p : Pos} {b : Expr} {pos : Pos} {mb : ME} (hu : X.A.units + 65 < cLine) (hb : XE X b mb) (hN : X.N[i]? = some nm := by rfl) (hv : Vis X.env.scope nm := by first | exact Or.inl rfl | exact Or.inr (Or.inl rfl) | exact Or.inr (Or.inr rfl)) (hd : (nm == ("__debug__" : Str)) = false := by decide) (hcd : (nm == ("__classdict__" : Str)) = false := by decide) (hs : PlainIx b := by intro _ _; rfl) (hs2 : NoSl b := by intro _ _; rfl) : XE X (.Subscript (.Name nm p) b pos) (mLookA i mb) :=
  PE.mono (PE.or (pe_ix ix_seq (pe_var hN hv hd hcd) hb hs) (pe_dget (by omega) (pe_var hN hv hd hcd) hb hs2)) fun _ _ _ h => (tm_lookA h)
/-! in: the right side a name, which stays as it is -/
def mLookR (i : Nat) (g : D → D → Option D) (ma : ME) : ME := fun ds => match ma ds with
  | some (e, ds1) => match ds1[i]? with
    | some (some d) => match g d e with
      | some d' => if clean d' && clean e then some (d', ds1) else none
      | none => none
    | _ => none
  | none => none
theorem tm_lookR {i : Nat} {r : R2} {g : D → D → Option D} {ma : ME} (hg : LookD K mg (fun x y => r y x) g) (h : tm K mg (mLookR i g ma) σ H Q) : tOp r (tm K mg ma) (tVar i) σ H Q := by
  obtain ⟨G, ds, f, d, ds', gh, o, n, e, k⟩ := h
  unfold mLookR at e
  split at e
  · rename_i e0 ds1 e1
    split at e
    · rename_i d0 hi
      split at e
      · rename_i d1 e2
        split at e
        · rename_i c
          cases e
          rw [Bool.and_eq_true] at c
          refine ⟨G, ds, f, e0, _, gh, o, n, e1, fun y G1 H1 p1 => ?_⟩
          obtain ⟨f1, f2, x1, o1, q1, n1⟩ := p1
          obtain ⟨v', fa, fb, fc, rfl, hv', ho, kk⟩ := o1.split hi
          have := q1.clean (clean_sing c.2)
          subst this
          exact ⟨v', hv', hg G1 H1 v' y d0 e0 _ fb Q x1.gh ho q1 e2 c.1 fun w G' H' y' q' => k w G' H' (Pst.put x1 o1 n1 y' q')⟩
        · cases e
      · cases e
    · cases e
  · cases e
def dInF (b : Bool) (d e : D) : Option D := (dInB e d).map fun r => .v (.bl (if b then r else !r))
theorem lookd_in : LookD K mg (fun x y => rInA K y x) (dInF true) := by
  intro G H x y d e d' f Q gh h1 h2 q c k
  unfold dInF at q
  cases hb : dInB e d with
  | none => rw [hb] at q; cases q
  | some b =>
    rw [hb] at q; cases q
    have k' := k (.bl b) G H (Ext.refl gh []) (.v .nil)
    rcases in_core (P := fun _ _ _ _ => True) gh h2 h1 hb with ⟨p, xs, rfl, hs, hf, hfs, rfl⟩ | ⟨dd, ds, p1, p2, s1, s2, rfl⟩ | ⟨u, z, rfl, rfl, rfl⟩ | ⟨i, j, rfl, rfl, rfl⟩
    · exact .inl ⟨p, xs, rfl, hs, hf, hfs, by simpa using k'⟩
    · exact .inr (.inl ⟨dd, ds, p1, p2, s1, s2, k'⟩)
    · exact .inr (.inr (.inl ⟨u, z, rfl, rfl, k'⟩))
    · exact .inr (.inr (.inr ⟨i, j, rfl, rfl, k'⟩))
def dKin (b : Bool) : D → D → Option D
  | .dic _ ks _, e => match dKey e with
    | some k => some (.v (.bl (if b then hasK ks k else !hasK ks k)))
    | none => none
  | _, _ => none
def rDin (b : Bool) : R2 := fun y x H Q => ∃ a o, x = .ref a ∧ DGet H a y o ∧ Q (.bl (if b then o.isSome else !o.isSome)) H
theorem lookd_kin {b : Bool} : LookD K mg (fun x y => rDin b y x) (dKin b) := by
  intro G H x y d e d' f Q gh h1 h2 q c k
  unfold dKin at q
  split at q
  · split at q
    · rename_i kk hk
      cases q
      obtain ⟨rfl, _⟩ := dKey_own h2 hk
      obtain ⟨a, kvs, f', rfl, e1, rfl, w, s1, m1⟩ := h1.dic_inv gh
      refine ⟨a, _, rfl, .inl ⟨kvs, kk, e1, rfl, rfl⟩, ?_⟩
      rw [valV_in]
      exact k _ G H (Ext.refl gh []) (.v .nil)
    · cases q
  · cases q
def mInV (b : Bool) (i : Nat) (ma : ME) : ME := fun ds => match isDic ds[i]? with
  | true => mLookR i (dKin b) ma ds
  | false => mLookR i (dInF b) ma ds
theorem tm_inV {i : Nat} {ma : ME} (h : tm K mg (mInV true i ma) σ H Q) : tOp (rInA K) (tm K mg ma) (tVar i) σ H Q ∨ tDIn (tm K mg ma) (tVar i) σ H Q := by
  obtain ⟨G, ds, f, d, ds', gh, o, n, e, k⟩ := h
  unfold mInV at e
  split at e
  · exact .inr (tm_lookR (r := rDin true) lookd_kin ⟨G, ds, f, d, ds', gh, o, n, e, k⟩)
  · exact .inl (tm_lookR lookd_in ⟨G, ds, f, d, ds', gh, o, n, e, k⟩)
section
variable {a : Expr} {ma : ME} {nm : Str} {p pos : Pos}
theorem xt_inV (i : Nat) (hu : X.A.units + 65 < cLine) (ha : XE X a ma) (hN : X.N[i]? = some nm := by rfl) (hv : Vis X.env.scope nm := by first | exact Or.inl rfl | exact Or.inr (Or.inl rfl) | exact Or.inr (Or.inr rfl)) (hd : (nm == ("__debug__" : Str)) = false := by decide) (hcd : (nm == ("__classdict__" : Str)) = false := by decide) : XT X (.Compare a [.In] [.Name nm p] pos) (mTst (mInV true i ma)) :=
  PT.mono (PT.or (pt_cmpR (opr_in hu) ha (pe_var hN hv hd hcd) rfl) (pt_cmp (pc_din (by omega) ha (pe_var hN hv hd hcd)))) fun σ H Q h => tt_tst (t := fun σ H Q => tOp (rInA X.K) (tm X.kw X.mg ma) (tVar i) σ H Q ∨ tDIn (tm X.kw X.mg ma) (tVar i) σ H Q) (fun _ q => tm_inV q) h
end
/-! ### a dict display -/
def mPairs : List (ME × ME) → DS → Option (List (Key × D) × DS)
  | [], ds => some ([], ds)
  | (mk, mv) :: r, ds => match mk ds with
    | some (e, ds1) => match dKey e with
      | some k => match mv ds1 with
        | some (d, ds2) => match mPairs r ds2 with
          | some (l, ds3) => some ((k, d) :: l, ds3)
          | none => none
        | none => none
      | none => none
    | none => none
def mDisp (l : List (ME × ME)) : ME := fun ds => match mPairs l ds with
  | some (kds, ds1) => if kds.length ≤ 15 then match mergeD [] [] kds with
    | some (ks, es) => some (.dic .own ks es, ds1)
    | none => none
    else none
  | none => none
theorem pairs_ok : ∀ (l : List (ME × ME)) {G H : Hp} {ds ds1 : DS} {f : List Addr} {kds : List (Key × D)} {Q : List (V × V) → Hp → Prop}, Same G H → OwnS K mg G H σ ds f → f.Nodup → mPairs l ds = some (kds, ds1) →
    (∀ (kvs : List (Key × V)) G' H', kvs.map (·.1) = kds.map (·.1) → Pst K mg f G H σ ds1 (kvs.map (·.2)) (kds.map (·.2)) G' H' → Q (kvs.map fun kv => (kV kv.1, kv.2)) H') → tPairs (l.map fun p => (tm K mg p.1, tm K mg p.2)) σ H Q := by
  intro l
  induction l with
  | nil => intro G H ds ds1 f kds Q gh o n e k; cases e; exact k [] G H rfl (Pst.refl gh o n)
  | cons p r ih =>
    intro G H ds ds1 f kds Q gh o n e k
    obtain ⟨mk, mv⟩ := p
    unfold mPairs at e
    split at e
    · rename_i ek d1 e1
      split at e
      · rename_i kk hk
        split at e
        · rename_i d d2 e2
          split at e
          · rename_i l3 d3 e3
            cases e
            refine ⟨G, ds, f, _, _, gh, o, n, e1, fun x G1 H1 p1 => ?_⟩
            obtain ⟨f1, f2, x1, o1, q1, n1⟩ := p1
            obtain ⟨rfl, rfl⟩ := dKey_own q1 hk
            have n1' := (List.nodup_append.mp n1).1
            refine ⟨G1, _, f1, _, _, x1.gh, o1, n1', e2, fun y G2 H2 p2 => ?_⟩
            have p2' := Pst.nil_trans x1 p2
            obtain ⟨f3, f4, x2, o2, q2, n2⟩ := p2'
            refine ih x2.gh o2 (List.nodup_append.mp n2).1 e3 fun kvs G' H' hks p3 => ?_
            exact k ((kk, y) :: kvs) G' H' (by simp [hks]) (Pst.and x2 o2 q2 n2 p3)
          · cases e
        · cases e
      · cases e
    · cases e
theorem merge_own : ∀ {kds : List (Key × D)} {kvs more : List (Key × V)} {ks' : List Key} {es es' : List D} {f g : List Addr}, more.map (·.1) = kds.map (·.1) → Owns K mg G H (more.map (·.2)) (kds.map (·.2)) g → Owns K mg G H (kvs.map (·.2)) es f → (f ++ g).Nodup → mergeD (kvs.map (·.1)) es kds = some (ks', es') →
    (mergeK kvs more).map (·.1) = ks' ∧ ∃ f', Owns K mg G H ((mergeK kvs more).map (·.2)) es' f' ∧ f'.Nodup ∧ ∀ p ∈ f', p ∈ f ++ g := by
  intro kds
  induction kds with
  | nil =>
    intro kvs more ks' es es' f g hm h1 h2 n e
    have : more = [] := by simpa using hm
    subst this
    cases e
    exact ⟨rfl, f, h2, (List.nodup_append.mp n).1, fun p hp => List.mem_append_left _ hp⟩
  | cons kd kds ih =>
    intro kvs more ks' es es' f g hm h1 h2 n e
    cases more with
    | nil => simp at hm
    | cons kv more =>
      simp only [List.map_cons, List.cons.injEq] at hm
      obtain ⟨g1, g2, rfl, w1, w2⟩ := Owns.cons_inv h1
      obtain ⟨k, d⟩ := kd
      unfold mergeD at e
      split at e
      · rename_i ks1 es1 e1
        have n1 : (f ++ g1).Nodup := by
          rw [← List.append_assoc] at n
          exact (List.nodup_append.mp n).1
        obtain ⟨rfl, f', a, b, c⟩ := Owns.put h2 w1 n1 e1
        rw [← List.append_assoc] at n
        have nn := List.nodup_append.mp n
        obtain ⟨r1, f'', r2, r3, r4⟩ := ih (kvs := putK kvs k kv.2) hm.2 w2 a (List.nodup_append.mpr ⟨b, nn.2.1, fun p hp q hq => nn.2.2 p (c p hp) q hq⟩) e
        have hk : kv.1 = k := hm.1
        refine ⟨?_, f'', ?_, r3, fun p hp => ?_⟩
        · rw [← r1]; simp [mergeK, hk]
        · have : mergeK kvs (kv :: more) = mergeK (putK kvs k kv.2) more := by simp [mergeK, hk]
          rw [this]; exact r2
        · have := r4 p hp
          simp only [List.mem_append] at this ⊢
          rcases this with h | h
          · have := c p h
            simp only [List.mem_append] at this
            rcases this with h | h <;> simp [h]
          · simp [h]
      · cases e
theorem tm_disp {l : List (ME × ME)} (h : tm K mg (mDisp l) σ H Q) : tDisp (l.map fun p => (tm K mg p.1, tm K mg p.2)) σ H Q := by
  obtain ⟨G, ds, f, d, ds', gh, o, n, e, k⟩ := h
  unfold mDisp at e
  split at e
  · rename_i kds ds1 e1
    split at e
    · rename_i hl
      split at e
      · rename_i ks es e2
        cases e
        intro p hp
        have hne : ∀ {b : Addr} {u : HO}, H b = some u → b ≠ p := fun e => ne_of_none e hp
        have g0 : Same G (upd H p (.dK [])) := fun b u e => by rw [upd_ne (hne (gh b u e))]; exact gh b u e
        have hpf : p ∉ f := fun hm => by obtain ⟨⟨u, e⟩, _⟩ := o.here p hm; rw [hp] at e; cases e
        have o0 : OwnS K mg G (upd H p (.dK [])) σ ds f := o.frame (Same.refl G) fun a ha => ⟨fun u e => by rw [upd_ne (hne e)]; exact e, (o.here a ha).2⟩
        refine pairs_ok l g0 o0 n e1 fun kvs G2 H2 hk p2 => ?_
        obtain ⟨f1, f2, x, o1, q, n2⟩ := p2
        have hHp : H2 p = some (.dK []) := x.keep p _ upd_same hpf
        have hGp : G2 p = none := x.gn p _ (not_g gh hp) hpf upd_same
        have hpn : p ∉ f1 ++ f2 := fun hm => by
          rcases x.fpn p hm with h | h
          · exact hpf h
          · rw [upd_same] at h; cases h
        have nn := List.nodup_append.mp n2
        obtain ⟨r1, f', r2, r3, r4⟩ := merge_own (kvs := []) (es := []) (f := []) hk q .nil (by simpa using nn.2.1) e2
        have hlen : kvs.length ≤ 15 := by
          have := congrArg List.length hk
          simp at this; omega
        refine ⟨hHp, kvs, rfl, hlen, ?_⟩
        have hk2 : ∀ b, b ≠ p → ∀ u, H2 b = some u → upd H2 p (.dK (mergeK [] kvs)) b = some u := fun b hb u e => by rw [upd_ne hb]; exact e
        have r4' : ∀ b ∈ f', b ∈ f2 := fun b hb => by simpa using r4 b hb
        refine k _ G2 _ ⟨f1, p :: f', ?_, ?_, ?_, ?_⟩
        · refine ⟨fun b u e => hk2 b (fun z => by subst z; rw [hGp] at e; cases e) u (x.gh b u e), x.gg, fun b u e hb => hk2 b (hne e) u (x.keep b u (by rw [upd_ne (hne e)]; exact e) hb), fun b hb => ?_, fun b u g hb e => x.gn b u g hb (by rw [upd_ne (hne e)]; exact e)⟩
          simp only [List.mem_append, List.mem_cons] at hb
          have key : b ∈ f1 ++ f2 → b ∈ f ∨ H b = none := fun hm => by
            rcases x.fpn b hm with h | h
            · exact .inl h
            · have hbp : b ≠ p := fun z => hpn (z ▸ hm)
              rw [upd_ne hbp] at h; exact .inr h
          rcases hb with h | h | h
          · exact key (List.mem_append_left _ h)
          · subst h; exact .inr hp
          · exact key (List.mem_append_right _ (r4' b h))
        · exact o1.frame (Same.refl G2) fun b hb => ⟨hk2 b fun z => hpn (z ▸ List.mem_append_left _ hb), (o1.here b hb).2⟩
        · have w := r2.frame (G' := G2) (H' := upd H2 p (.dK (mergeK [] kvs))) (Same.refl G2) fun b hb => ⟨hk2 b fun z => hpn (z ▸ List.mem_append_right _ (r4' b hb)), (r2.here b hb).2⟩
          simpa using Owns.od upd_same hGp r1 w .nil
        · rw [List.nodup_append, List.nodup_cons]
          refine ⟨nn.1, ⟨fun hm => hpn (List.mem_append_right _ (r4' p hm)), r3⟩, fun b hb c hc z => ?_⟩
          rcases List.mem_cons.mp hc with h | h
          · exact hpn (List.mem_append_left _ (by rw [← h, ← z]; exact hb))
          · exact nn.2.2 b hb c (r4' c h) z
      · cases e
    · cases e
  · cases e
abbrev XPs (X : Cx) (pos : Pos) (keys : List (Option Expr)) (values : List Expr) (l : List (ME × ME)) : Prop := PPs X pos keys values (l.map fun p => (tm X.kw X.mg p.1, tm X.kw X.mg p.2))
theorem xp_nil {pos : Pos} : XPs X pos [] [] [] := pps_nil
theorem xp_cons {pos : Pos} {k v : Expr} {ks : List (Option Expr)} {vs : List Expr} {mk mv : ME} {l : List (ME × ME)} (hk : XE X k mk) (hv : XE X v mv) (hr : XPs X pos ks vs l) : XPs X pos (some k :: ks) (v :: vs) ((mk, mv) :: l) := pps_cons hk hv hr
theorem xe_disp {pos : Pos} {keys : List (Option Expr)} {values : List Expr} {l : List (ME × ME)} (h : XPs X pos keys values l) (hall : keys.all (·.isSome) = true := by rfl) (hl : keys.length = values.length := by rfl) (h0 : keys ≠ [] := by intro z; cases z) (h15 : keys.length ≤ 15 := by decide) : XE X (.Dict keys values pos) (mDisp l) :=
  PE.mono (pe_disp h hall hl h0 h15) fun _ _ _ q => tm_disp q
/-! ### a, b = e1, e2 -/
end
end Z
namespace Z
open PySem PySem.Spec L2
section
variable {K : KW} {mg : Str → Option Value} {f f1 f2 g1 g2 : List Addr} {G H G1 H1 G2 H2 : Hp} {σ : L2.St} {ds ds1 ds2 : DS} {vs ws : List V} {es es2 : List D} {x y : V} {d e : D} {X : Cx} {Q : VK} {fx : Nat → Bool} {E : Ends}
/-! ### enumerate -/
def enumD : Nat → List D → List D
  | _, [] => []
  | k, e :: es => .tup [.v (.int (k : Nat)), e] :: enumD (k + 1) es
def mEnum (m : MA) : MA := fun ds => match m ds with
  | some ([.lst _ es], ds1) => if cleans (fzs es) then some (enumD 0 (fzs es), ds1) else none
  | _ => none
/-! ### zip -/
def zipD (es fs : List D) : List D := List.zipWith (fun d e => .tup [d, e]) es fs
def mZip (m : MA) : MA := fun ds => match m ds with
  | some ([.lst _ es, .lst _ es2], ds1) => if cleans (fzs es) && cleans (fzs es2) then some (zipD (fzs es) (fzs es2), ds1) else none
  | _ => none
/-! ### the signs of a text -/
def itemsS : D → Option (List D)
  | .v (.str s) => some (s.cps.toList.map fun c => .v (.str ⟨#[c]⟩))
  | _ => none
theorem itd_str {s : Str} : ItD K mg (Its s) (s.cps.toList.map fun c => .v (.str ⟨#[c]⟩)) G := by
  intro G' H' g gh
  refine ⟨fun i hi => show s.cps.size ≤ i by simpa using hi, fun i d hd => ?_⟩
  rw [List.getElem?_map] at hd
  cases hr : s.cps.toList[i]? with
  | none => rw [hr] at hd; cases hd
  | some c =>
    rw [hr] at hd; cases hd
    obtain ⟨hi, e⟩ := List.getElem?_eq_some_iff.mp hr
    refine ⟨show i < s.cps.size by simpa using hi, fun x H'' hy => ?_⟩
    obtain ⟨rfl, c', hc, rfl⟩ := hy
    rw [Array.getElem?_toList] at hr
    rw [hc] at hr; cases hr
    exact ⟨G', Ext.refl gh [], .v .nil⟩
theorem ti_str {m : ME} {R : It → Hp → Prop} (h : ti K mg (mIt itemsS m) σ H R) : iStr (tm K mg m) σ H R := by
  obtain ⟨G, ds, f, items, ds', g, o, n, e, k⟩ := h
  unfold mIt at e
  split at e
  · rename_i d ds1 e1
    split at e
    · rename_i es e2
      cases e
      refine ⟨G, ds, f, d, _, g, o, n, e1, fun v G1 H1 p1 => ?_⟩
      obtain ⟨f1, f2, x1, o1, q1, n1⟩ := p1
      unfold itemsS at e2
      split at e2
      · cases e2
        obtain ⟨rfl, rfl⟩ := q1.v_inv
        exact ⟨_, rfl, k _ G1 H1 ⟨f1, [], x1, o1, .nil, n1⟩ itd_str⟩
      · cases e2
    · cases e
  · cases e
theorem xi_str {tg e : Expr} {m : ME} (h : XE X e m) : XI X tg e (mIt itemsS m) := PI.mono (pi_str h) fun _ _ _ q => ti_str q
/-! ### range(a, b, c) -/
/-! ### x.index(e), x a name that holds a list -/
def mLookL (i : Nat) (g : D → D → Option D) (mb : ME) : ME := fun ds => match ds[i]? with
  | some (some (.lst _ _)) => mLook i g mb ds
  | _ => none
end
end Z
namespace Z
open PySem PySem.Spec L2
section
variable {K : KW} {mg : Str → Option Value} {f f1 f2 g1 g2 : List Addr} {G H G1 H1 G2 H2 : Hp} {σ : L2.St} {ds ds1 ds2 : DS} {vs ws : List V} {es es2 : List D} {x y : V} {d e : D} {X : Cx} {Q : VK} {fx : Nat → Bool} {E : Ends}
/-! ### methods of texts -/
def MthD (K : KW) (mg : Str → Option Value) (r : V → List V → Hp → VK → Prop) (g : Str → List D → Option D) : Prop := ∀ (G H : Hp) (a : Str) (xs : List V) (es : List D) (d' : D) (f : List Addr) (Q : VK), Same G H → Owns K mg G H xs es f → f.Nodup → g a es = some d' →
  (∀ v G' H', VPst K mg f G H [v] [d'] G' H' → Q v H') → r (.str a) xs H Q
def mMt (g : Str → List D → Option D) (m : ME) (r : MA) : ME := fun ds => match m ds with
  | some (.v (.str a), ds1) => match r ds1 with
    | some (es, ds2) => match g a es with
      | some d => some (d, ds2)
      | none => none
    | none => none
  | _ => none
theorem tm_mt {r : V → List V → Hp → VK → Prop} {g : Str → List D → Option D} {m : ME} {mr : MA} (hg : MthD K mg r g) (h : tm K mg (mMt g m mr) σ H Q) : tBM K "str" r (tm K mg m) (ta K mg mr) σ H Q := by
  obtain ⟨G, ds, f, d, ds', gh, o, n, e, k⟩ := h
  unfold mMt at e
  split at e
  · rename_i a ds1 e1
    split at e
    · rename_i es ds2 e2
      split at e
      · rename_i d1 e3
        cases e
        refine ⟨G, ds, f, _, ds1, gh, o, n, e1, fun v G1 H1 p1 => ?_⟩
        obtain ⟨f1, f2, x1, o1, q1, n1⟩ := p1
        obtain ⟨rfl, rfl⟩ := q1.v_inv
        refine ⟨rfl, G1, ds1, f1, _, _, x1.gh, o1, (List.nodup_append.mp n1).1, e2, fun vs G2 H2 p2 => ?_⟩
        obtain ⟨f3, f4, x2, o2, q2, n2⟩ := Pst.nil_trans x1 p2
        exact hg G2 H2 a vs es _ f4 Q x2.gh q2 (List.nodup_append.mp n2).2.1 e3 fun v G3 H3 p3 => k v G3 H3 (Pst.map x2 o2 n2 p3)
      · cases e
    · cases e
  · cases e
def strsD : List D → Option (List Str)
  | [] => some []
  | .v (.str s) :: r => match strsD r with
    | some t => some (s :: t)
    | none => none
  | _ => none
theorem strs_own : ∀ {es : List D} {vs : List V} {f : List Addr} {s : List Str}, Owns K mg G H vs es f → strsD es = some s → vs = s.map V.str := by
  intro es
  induction es with
  | nil =>
    intro vs f s h e
    cases e
    have := h.length
    have : vs = [] := List.eq_nil_of_length_eq_zero this
    subst this
    rfl
  | cons d es ih =>
    intro vs f s h e
    cases vs with
    | nil => cases h
    | cons v vs =>
      obtain ⟨f1, f2, rfl, h1, h2⟩ := h.cons_inv
      unfold strsD at e
      split at e
      · rename_i hh; cases hh
      · rename_i i r hh
        cases hh
        split at e
        · rename_i s' e'
          cases e
          have := ih h2 e'
          subst this
          obtain ⟨rfl, rfl⟩ := h1.v_inv
          rfl
        · cases e
      · cases e
def dJoin (a : Str) : List D → Option D
  | [.lst _ es] => match strsD es with
    | some ys => if (ys.map (·.length)).sum + ys.length * a.length ≤ 16777216 then some (.v (.str (Txt.join a ys))) else none
    | none => none
  | _ => none
theorem mthd_join : MthD K mg (fun x xs H Q => ∃ a p, ∃ ys : List Str, x = .str a ∧ xs = [.ref p] ∧ (SqL K H p (ys.map V.str) ∨ SqT K H p (ys.map V.str)) ∧ (ys.map (·.length)).sum + ys.length * a.length ≤ 16777216 ∧ Q (.str (Txt.join a ys)) H) dJoin := by
  intro G H a xs es d' f Q gh h n e k
  unfold dJoin at e
  split at e
  · split at e
    · rename_i ys e1
      split at e
      · rename_i c
        cases e
        cases xs with
        | nil => cases h
        | cons x xs =>
          obtain ⟨f1, f2, rfl, h1, h2⟩ := h.cons_inv
          cases h2
          obtain ⟨p, vs, f', rfl, hs, w, _, _⟩ := h1.lst_inv gh
          have := strs_own w e1
          subst this
          exact ⟨a, p, ys, rfl, rfl, .inl hs, c, k _ G H (VPst.val gh)⟩
      · cases e
    · cases e
  · cases e
theorem xe_join {o e : Expr} {apos cpos : Pos} {m me : ME} (ho : XE X o m) (he : XE X e me)
    (hse : starEach [e] X.env = (false, eval e X.env) :: starEach [] X.env := by rfl)
    (hbase : attributeBase o "join" X.env (eval o X.env) = eval o X.env := by rfl) (hfew : ((backTo cpos (starEach [e] X.env)).all (fun x => !x.1) && (backToKw cpos (keywordEach [] X.env)).all (fun x => x.1.isSome) && decide (([e] : List Expr).length + ([] : List Keyword).length + (if ([] : List Keyword).isEmpty then 0 else 1) < 30)) = true := by rfl) (hline : (apos.endLine == cpos.line) = true := by rfl) (hplain : (backTo cpos (starEach [] X.env)).any (·.1) = false := by rfl) : XE X (.Call (.Attribute o "join" apos) [e] [] cpos) (mMt dJoin m (mCons me mNil)) :=
  PE.mono (pe_bm PySem.F.plainAttrs_str PySem.F.slot_str_join PySem.F.type_str_join mt_join ho (xa_cons he xa_nil hse) hbase hfew hline hse hplain) fun _ _ _ h => tm_mt mthd_join h
end
end Z
namespace Z
open PySem PySem.Spec L2
section
variable {K : KW} {mg : Str → Option Value} {f f1 f2 g1 g2 : List Addr} {G H G1 H1 G2 H2 : Hp} {σ : L2.St} {ds ds1 ds2 : DS} {vs ws : List V} {es es2 : List D} {x y : V} {d e : D} {X : Cx} {Q : VK} {fx : Nat → Bool} {E : Ends}
/-! ### what slot i holds is frozen, and nothing else is done -/
def fzAt (i : Nat) (ds : DS) : DS := match ds[i]? with
  | some (some d) => if clean (fz d) then ds.set i (some (fz d)) else ds
  | _ => ds
theorem fzAt_ok (g : Same G H) (o : OwnS K mg G H σ ds f) (n : f.Nodup) (i : Nat) : ∃ G' f', Ext f G H f' G' H ∧ OwnS K mg G' H σ (fzAt i ds) f' ∧ f'.Nodup := by
  unfold fzAt
  split
  · rename_i d0 hi
    split
    · rename_i hz
      obtain ⟨v, fa, fb, fc, rfl, hv, ho, kk⟩ := o.split hi
      have hh := o.here
      have hb : ∀ a ∈ fb, (∃ o, H a = some o) ∧ G a = none := fun a h => hh a (by simp [h])
      let G' : Hp := fun a => if a ∈ fb then H a else G a
      have gG : Same G G' := fun b u e => by
        show (if b ∈ fb then H b else G b) = some u
        rw [if_neg (fun h => by have := (hb b h).2; rw [this] at e; cases e)]; exact e
      have gH : Same G' H := fun b u e => by
        by_cases h : b ∈ fb
        · have : G' b = H b := if_pos h
          rw [this] at e; exact e
        · have : G' b = G b := if_neg h
          rw [this] at e; exact g b u e
      have hk : ∀ a ∈ fb, ∀ u, H a = some u → G' a = some u := fun a h u e => by show (if a ∈ fb then H a else G a) = some u; rw [if_pos h]; exact e
      have hfz : Owns K mg G' H [v] [fz d0] [] := ho.freeze (clean_sing hz) gG hk
      have hn : ∀ a, a ∉ fb → G a = none → G' a = none := fun a h e => by show (if a ∈ fb then H a else G a) = none; rw [if_neg h]; exact e
      have nd1 : ∀ a, a ∈ fa ∨ a ∈ fc → a ∉ fb := by
        intro a ha hb
        simp only [List.nodup_append, List.mem_append] at n
        rcases ha with ha | ha
        · exact n.1.2.2 a ha a hb rfl
        · exact n.2.2 a (.inr hb) a ha rfl
      obtain ⟨_, k2⟩ := kk G' H gG fun a ha => ⟨fun o e => e, hn a (nd1 a ha) (hh a (by rcases ha with h | h <;> simp [h])).2⟩
      have ex : Ext (fa ++ fb ++ fc) G H (fa ++ fc) G' H := ⟨gH, gG, fun _ _ e _ => e, fun p hp => .inl (by simp only [List.mem_append] at hp ⊢; rcases hp with h | h <;> simp [h]), fun p u e q _ => hn p (fun h => q (by simp [h])) e⟩
      refine ⟨G', fa ++ fc, ex, by simpa using k2 _ _ hfz, ?_⟩
      simp only [List.nodup_append, List.mem_append] at n ⊢
      exact ⟨n.1.1, n.2.1, fun a ha b hb => n.2.2 a (.inl ha) b hb⟩
    · exact ⟨G, f, Ext.refl g f, o, n⟩
  · exact ⟨G, f, Ext.refl g f, o, n⟩
theorem tm_fz {i : Nat} {m : ME} (h : tm K mg (fun ds => m (fzAt i ds)) σ H Q) : tm K mg m σ H Q := by
  obtain ⟨G, ds, f, d, ds', g, o, n, e, k⟩ := h
  obtain ⟨G', f', x, o', n'⟩ := fzAt_ok g o n i
  exact ⟨G', _, f', d, ds', x.gh, o', n', e, fun v G3 H3 p => k v G3 H3 (Pst.nil_trans (by simpa using x) p)⟩
/-- as m, else as m with slot i frozen -/
def orFz (i : Nat) (m : ME) : ME := fun ds => match m ds with
  | some r => some r
  | none => m (fzAt i ds)
theorem tm_orFz {i : Nat} {m : ME} (h : tm K mg (orFz i m) σ H Q) : tm K mg m σ H Q := by
  obtain ⟨G, ds, f, d, ds', g, o, n, e, k⟩ := h
  unfold orFz at e
  split at e
  · rename_i r e1
    cases e
    exact ⟨G, ds, f, _, _, g, o, n, e1, k⟩
  · exact tm_fz (i := i) ⟨G, ds, f, d, ds', g, o, n, e, k⟩
theorem xe_orFz (i : Nat) {e : Expr} {m : ME} (h : XE X e m) : XE X e (orFz i m) := PE.mono h fun _ _ _ q => tm_orFz q
/-! ### d[k], d any expression that tells a dict -/
theorem opd_kx : OpD K mg rDx dKx := by
  intro G H x y d e d' f Q gh h n q k
  unfold dKx at q
  split at q
  · split at q
    · rename_i kk hk
      obtain ⟨f1, f2, rfl, h1, h2⟩ := h.two
      obtain ⟨rfl, rfl⟩ := dKey_own h2 hk
      obtain ⟨a, kvs, f', rfl, e1, rfl, w, s1, m1⟩ := h1.dic_inv gh
      obtain ⟨v, f3, hv, w3, s3, m3⟩ := w.getS q
      have nn := (List.nodup_append.mp n).1
      exact ⟨a, v, rfl, .inl ⟨kvs, kk, e1, rfl, hv.symm⟩, k _ G H (VPst.same gh w3 (fun p hp => by simpa using s1 p (s3 p hp)) (m3 (m1 nn)))⟩
    · cases q
  · cases q
theorem xe_ixd {a b : Expr} {pos : Pos} {ma mb : ME} (hu : X.A.units + 65 < cLine) (ha : XE X a ma) (hb : XE X b mb) (hs : NoSl b := by intro _ _; rfl) : XE X (.Subscript a b pos) (mOp dKx ma mb) := PE.mono (pe_dget (by omega) ha hb hs) fun _ _ _ h => (tm_op (r := rDx) opd_kx h)
/-! ### a value that is frozen at once -/
def mFrz (m : ME) : ME := fun ds => match m ds with
  | some (d, ds1) => if clean (fz d) then some (fz d, ds1) else none
  | none => none
theorem tm_frz {m : ME} (h : tm K mg (mFrz m) σ H Q) : tm K mg m σ H Q := by
  obtain ⟨G, ds, f, d, ds', g, o, n, e, k⟩ := h
  unfold mFrz at e
  split at e
  · rename_i d1 ds1 e1
    split at e
    · rename_i c
      cases e
      refine ⟨G, ds, f, d1, _, g, o, n, e1, fun v G1 H1 p => ?_⟩
      obtain ⟨f1, f2, x1, o1, q1, n1⟩ := p
      obtain ⟨G', p', g', k', gh'⟩ := Pst.freeze x1 o1 q1 n1
      obtain ⟨f3, f4, x3, o3, q3, n3⟩ := p'
      cases q3
      exact k v G' H1 ⟨f3, [], x3, o3, q1.freeze (clean_sing c) g' k', n3⟩
    · cases e
  · cases e
theorem xe_frz {e : Expr} {m : ME} (h : XE X e m) : XE X e (mFrz m) := PE.mono h fun _ _ _ q => tm_frz q
/-! ### a def that calls itself: a promise for each depth -/
theorem fn_none {P : Program} {w : World} {K : PySem.W.Frag} {base : Heap} {CX : CXT} {k np : Nat} {f : Addr} {fd : FuncData} {ps : List Str} (hl : ps.length = np) : FnOk P w K mg base CX k f fd ps (spF ⟨K, w⟩ mg np fun _ => none) :=
  ⟨fun vs H Q E h => h.1.trans hl.symm, fun A outer s H args us vs Q E _ _ _ _ hs => by
    obtain ⟨_, G, as, f, d, os, _, _, _, e, _⟩ := hs
    cases e⟩
end
end Z
namespace Z
open PySem PySem.Spec L2
section
variable {K : KW} {mg : Str → Option Value} {f f1 f2 g1 g2 : List Addr} {G H G1 H1 G2 H2 : Hp} {σ : L2.St} {ds ds1 ds2 : DS} {vs ws : List V} {es es2 : List D} {x y : V} {d e : D} {X : Cx} {Q : VK} {fx : Nat → Bool} {E : Ends}
/-! ### dicts that change -/
/-- x[k] = v -/
def mPutK (i : Nat) (mi me : ME) : MS := fun ds => match me ds with
  | some (d, ds1) => match ds1[i]? with
    | some (some _) => match mi ds1 with
      | some (e, ds2) => match dKey e with
        | some k => match ds2[i]? with
          | some (some (.dic .own ks es)) => match putD ks es k d with
            | some (ks', es') => if ks.length < 10000000 then some (.nx (ds2.set i (some (.dic .own ks' es')))) else none
            | none => none
          | _ => none
        | none => none
      | none => none
    | _ => none
  | none => none
/-- {} -/
def mNewK : ME := fun ds => some (.dic .own [] [], ds)
/-! dict(d): a copy -/
def dDictD : List D → Option D
  | [.dic _ ks es] => if cleans es then some (.dic .own ks es) else none
  | _ => none
/-! == and != of two dicts that are alike -/
section
variable {a b : Expr} {ma mb : ME} {pos : Pos}
end
end
end Z
namespace Z
open PySem PySem.Spec L2
section
variable {K : KW} {mg : Str → Option Value} {f f1 f2 g1 g2 : List Addr} {G H G1 H1 G2 H2 : Hp} {σ : L2.St} {ds ds1 ds2 : DS} {vs ws : List V} {es es2 : List D} {x y : V} {d e : D} {X : Cx} {Q : VK} {fx : Nat → Bool} {E : Ends}
/-! ### while, at most n turns -/
def whL (t : MT) (b : MS) : Nat → DS → Option Out
  | 0, _ => none
  | n + 1, ds => match t ds with
    | some (true, ds1) => match b ds1 with
      | some (.nx ds2) => whL t b n ds2
      | some (.ct ds2) => whL t b n ds2
      | some (.bk ds2) => some (.nx ds2)
      | some (.rt d ds2) => some (.rt d ds2)
      | none => none
    | some (false, ds1) => some (.nx ds1)
    | none => none
def mWhile (t : MT) (b : MS) : MS := whL t b 1000000000
theorem ts_while {t : MT} {b : MS} {N : Nat} (h : ts K mg fx (whL t b N) E σ H) : tWhile (tt K mg t) (ts K mg fx b) E σ H := by
  obtain ⟨G, ds, f, out, gh, o, n, e, k⟩ := h
  refine ⟨fun m σ' H' => FixS fx σ σ' ∧ ∃ G' ds' f', Ext f G H f' G' H' ∧ OwnS K mg G' H' σ' ds' f' ∧ f'.Nodup ∧ whL t b m ds' = some out,
    ⟨N, FixS.refl _ _, G, ds, f, Ext.refl gh f, o, n, e⟩, fun m σ' H' hW => ?_⟩
  obtain ⟨hx, G', ds', f', x', o', n', e'⟩ := hW
  cases m with
  | zero => cases e'
  | succ m =>
    unfold whL at e'
    split at e'
    · rename_i ds1 e1
      refine ⟨G', ds', f', _, _, x'.gh, o', n', e1, fun G1 H1 p1 => ?_⟩
      obtain ⟨f1, f2, x1, o1, q1, n1⟩ := p1
      cases q1
      have x1' : Ext f' G' H' f1 G1 H1 := by simpa using x1
      have xx : Ext f G H f1 G1 H1 := x'.trans x1'
      have n1' := (List.nodup_append.mp n1).1
      have fin : ∀ {σ4 : L2.St} {ds4 : DS} {G4 H4 : Hp} {vs : List V} {es : List D}, Pst K mg f1 G1 H1 σ4 ds4 vs es G4 H4 → Pst K mg f G H σ4 ds4 vs es G4 H4 := fun p => Pst.nil_trans (by simpa using xx) p
      have nxt : ∀ {σ4 : L2.St} {ds4 : DS} {G4 H4 : Hp}, FixS fx σ' σ4 → Pst K mg f1 G1 H1 σ4 ds4 [] [] G4 H4 → whL t b m ds4 = some out →
          FixS fx σ σ4 ∧ ∃ G' ds' f', Ext f G H f' G' H4 ∧ OwnS K mg G' H4 σ4 ds' f' ∧ f'.Nodup ∧ whL t b m ds' = some out := by
        intro σ4 ds4 G4 H4 hx4 p4 e4
        obtain ⟨f5, f6, x5, o5, q5, n5⟩ := p4
        cases q5
        have x5' : Ext f1 G1 H1 f5 G4 H4 := by simpa using x5
        exact ⟨hx.trans hx4, G4, ds4, f5, xx.trans x5', o5, (List.nodup_append.mp n5).1, e4⟩
      show (if true = true then _ else _)
      rw [if_pos rfl]
      refine ⟨fun σ4 H4 => FixS fx σ σ4 ∧ ∃ G' ds' f', Ext f G H f' G' H4 ∧ OwnS K mg G' H4 σ4 ds' f' ∧ f'.Nodup ∧ whL t b m ds' = some out, fun σ4 H4 h4 => ⟨m, by omega, h4⟩, ?_⟩
      split at e'
      · rename_i ds4 e4
        exact ⟨G1, ds1, f1, _, x1'.gh, o1, n1', e4, fun σ4 hx4 G4 H4 p4 => nxt hx4 p4 e'⟩
      · rename_i ds4 e4
        exact ⟨G1, ds1, f1, _, x1'.gh, o1, n1', e4, fun σ4 hx4 G4 H4 p4 => nxt hx4 p4 e'⟩
      · rename_i ds4 e4
        cases e'
        exact ⟨G1, ds1, f1, _, x1'.gh, o1, n1', e4, fun σ4 hx4 G4 H4 p4 => k σ4 (hx.trans hx4) G4 H4 (fin p4)⟩
      · rename_i d4 ds4 e4
        cases e'
        exact ⟨G1, ds1, f1, _, x1'.gh, o1, n1', e4, fun σ4 hx4 v G4 H4 p4 => k σ4 (hx.trans hx4) v G4 H4 (fin p4)⟩
      · cases e'
    · rename_i ds1 e1
      cases e'
      refine ⟨G', ds', f', _, _, x'.gh, o', n', e1, fun G1 H1 p1 => ?_⟩
      show (if false = true then _ else _)
      rw [if_neg (by simp)]
      exact k σ' hx G1 H1 (Pst.nil_trans (by simpa using x') p1)
    · cases e'
theorem xs_while {c : Expr} {body : List Stmt} {pos : Pos} {t : MT} {b : MS} (hp : PassesOwn (model X.prog X.w) X.A X.env X.xe) (hc : XT X c t) (hb : XB X fx body b) : XS X fx (.While c body [] pos) (mWhile t b) :=
  PS.mono (ps_while hp hc hb) fun _ _ _ h => ts_while h
/-! x.find(e) of texts -/
end
end Z
namespace Z
open PySem PySem.Spec L2
section
variable {K : KW} {mg : Str → Option Value} {f f1 f2 g1 g2 : List Addr} {G H G1 H1 G2 H2 : Hp} {σ : L2.St} {ds ds1 ds2 : DS} {vs ws : List V} {es es2 : List D} {x y : V} {d e : D} {X : Cx} {Q : VK} {fx : Nat → Bool} {E : Ends}
/-! x.count(e), flat items -/
/-! x.pop(e) -/
/-! x.insert(e, e) -/
/-! range(a, b, c) -/
end
end Z
namespace Z
open PySem PySem.Spec L2
section
variable {K : KW} {mg : Str → Option Value} {f f1 f2 g1 g2 : List Addr} {G H G1 H1 G2 H2 : Hp} {σ : L2.St} {ds ds1 ds2 : DS} {vs ws : List V} {es es2 : List D} {x y : V} {d e : D} {X : Cx} {Q : VK} {fx : Nat → Bool} {E : Ends}
/-! a, b = e, e a list of two -/
/-! x[lo:hi], x a name that holds a list, which stays as it is -/
/-! f(x), f a built-in function that looks alone, x a name, which stays as it is -/
end
end Z
namespace Z
open PySem PySem.Spec L2
section
variable {K : KW} {mg : Str → Option Value} {f f1 f2 g1 g2 : List Addr} {G H G1 H1 G2 H2 : Hp} {σ : L2.St} {ds ds1 ds2 : DS} {vs ws : List V} {es es2 : List D} {x y : V} {d e : D} {X : Cx} {Q : VK} {fx : Nat → Bool} {E : Ends}
theorem Ext.more (a : Ext f G H f1 G1 H1) (h : ∀ p ∈ f, p ∈ f2) : Ext f2 G H f1 G1 H1 :=
  ⟨a.gh, a.gg, fun p o e n => a.keep p o e fun q => n (h p q), fun p q => (a.fpn p q).imp (h p) id, fun p o g n e => a.gn p o g (fun q => n (h p q)) e⟩
/-! ### F(x[k], ..), the item of x handed over and put back -/
/-! ### for t in x: the items of x owned, each put back behind its turn -/
/-! ### t = x[k]; the rest: the item owned by t while the rest runs, and put back -/
end
end Z
namespace Z
open PySem PySem.Spec L2
section
variable {K : KW} {mg : Str → Option Value} {f f1 f2 g1 g2 : List Addr} {G H G1 H1 G2 H2 : Hp} {σ : L2.St} {ds ds1 ds2 : DS} {vs ws : List V} {es es2 : List D} {x y : V} {d e : D} {X : Cx} {Q : VK} {fx : Nat → Bool} {E : Ends}
/-! ### a list of which an item is a name's own value: [pot] + [..] -/
/-! [x] + e, x a name: its first item is x's own value -/
/-! [m for t in [x] + e] -/
/-! list(range(i, j)) -/
/-! x == e, x != e: x a name that stays as it is -/
end
end Z
namespace L2
open PySem PySem.Spec PyProof.Rows
section
variable {X : Cx} {pins : List (Addr × Obj)} {σ : St} {H : Hp} {s : Shared} {a b : Addr} {r : Value} {d : V} {k : List Key} {A : Around} {E : Value → Shared → Prop}
end
section
variable {X : Cx} {o e f : Expr} {td ty tx : TE} {apos cpos : Pos}
end
end L2
namespace Z
open PySem PySem.Spec L2
section
variable {K : KW} {mg : Str → Option Value} {f f1 f2 g1 g2 : List Addr} {G H G1 H1 G2 H2 : Hp} {σ : L2.St} {ds ds1 ds2 : DS} {vs ws : List V} {es es2 : List D} {x y : V} {d e : D} {X : Cx} {Q : VK} {fx : Nat → Bool} {E : Ends}
/-! ### dicts by flat tuples -/
section
variable {a b : Expr} {ma mb : ME} {nm : Str} {p pos : Pos}
end
/-! isinstance of a name, which stays as it is -/
def dIsiT (T : String) : List D → Option D
  | [d] => match tyOf d with
    | some t => (kitB t T).map fun b => .v (.bl b)
    | none => none
  | _ => none
theorem lookd_ne : LookD K mg (fun x y H Q => rNe x y H Q ∨ rNeD K x y H Q) dNe := by
  intro G H x y d e d' f Q gh h1 h2 q hcl k
  have kk : ∀ b : Bool, d' = .v (.bl b) → Q (.bl b) H := fun b z => by subst z; exact k _ G H (Ext.refl gh []) (.v .nil)
  unfold dNe dEqB at q
  split at q
  · split at q
    · rename_i c
      cases q
      obtain ⟨rfl, rfl⟩ := h1.v_inv
      obtain ⟨rfl, _⟩ := h2.v_inv
      exact .inl ⟨c, kk _ rfl⟩
    · cases q
  · split at q
    · rename_i p r e1 e2
      split at q
      · rename_i c
        cases q
        rw [Bool.and_eq_true] at c
        exact .inr ⟨p, r, h1.dp1 gh e1, h2.dp1 gh e2, c.1, c.2, kk _ rfl⟩
      · cases q
    · cases q
theorem xt_neV (i : Nat) {nm : Str} {p pos : Pos} {b : Expr} {mb : ME} (hu : X.A.units + 64 < cLine) (hb : XE X b mb) (hN : X.N[i]? = some nm := by rfl) (hv : Vis X.env.scope nm := by first | exact Or.inl rfl | exact Or.inr (Or.inl rfl) | exact Or.inr (Or.inr rfl)) (hd : (nm == ("__debug__" : Str)) = false := by decide) (hcd : (nm == ("__classdict__" : Str)) = false := by decide) :
    XT X (.Compare (.Name nm p) [.NotEq] [b] pos) (mTst (mLook i dNe mb)) :=
  PT.mono (pt_cmpR (op_ne.or (op_neD hu)) (pe_var hN hv hd hcd) hb (nomark _)) fun _ _ _ h => tt_tst (fun _ q => tm_look lookd_ne q) h
end
end Z
namespace L2
open PySem PySem.Spec PyProof.Rows
/-! t > u of two tuples of numbers -/
end L2
namespace Z
open PySem PySem.Spec L2
section
variable {K : KW} {mg : Str → Option Value} {G H : Hp} {vs : List V} {f : List Addr} {X : Cx}
end
end Z
namespace Z
open PySem PySem.Spec L2
end Z
namespace Z
open PySem PySem.Spec L2
section
variable {K : KW} {mg : Str → Option Value} {f f1 f2 g1 g2 : List Addr} {G H G1 H1 G2 H2 : Hp} {σ : L2.St} {ds ds1 ds2 : DS} {vs ws : List V} {es es2 : List D} {x y : V} {d e : D} {X : Cx} {Q : VK} {fx : Nat → Bool} {E : Ends}
/-! ### for t in x: x's spine frozen, its items owned -/
def putF (i t : Nat) (es : List D) (j : Nat) (ds : DS) : Option DS := match ds[t]? with
  | some (some e) => if i < ds.length then some ((ds.set t none).set i (some (.lst .fro (es.set j e)))) else none
  | _ => none
/-! ### F(.., [x] + e): x's value is lent with the list's spine known, and read back from it -/
end
end Z
namespace Z
open PySem PySem.Spec L2
section
variable {K : KW} {mg : Str → Option Value} {f f1 f2 g1 g2 : List Addr} {G H G1 H1 G2 H2 : Hp} {σ : L2.St} {ds ds1 ds2 : DS} {vs ws : List V} {es es2 : List D} {x y : V} {d e : D} {X : Cx} {Q : VK} {fx : Nat → Bool} {E : Ends}
/-! ### [m for t in u], u's spine known, its items owned: each is put back behind its turn -/
/-! ### F(x, ..) while x's value is the first item of u -/
/-! ### u = [x] + e; a, b = F(x, ..); one statement more; the rest, where u is no more looked at -/
/-! ### a call that only looks: what is handed in is known while it runs, and stays as it was -/
end
end Z
namespace Z
open PySem PySem.Spec L2
section
variable {K : KW} {mg : Str → Option Value} {f f1 f2 g1 g2 : List Addr} {G H G1 H1 G2 H2 : Hp} {σ : L2.St} {ds ds1 ds2 : DS} {vs ws : List V} {es es2 : List D} {x y : V} {d e : D} {X : Cx} {Q : VK} {fx : Nat → Bool} {E : Ends}
/-! ### t = x[k], x's spine frozen: t is put back at the end of the block -/
/-! ### F(x[k], ..), x's spine frozen: what stands behind may use x's items, too -/
/-! ### a list's spine frozen, its items owned as before -/
/-! ### e.count(y), e any value -/
end
end Z
namespace Z
open PySem PySem.Spec PyProof.Rows L2
/-! ### zip of a list and a tuple -/
section
variable {K : KW} {mg : Str → Option Value} {f f1 f2 g1 g2 : List Addr} {G H G1 H1 G2 H2 : Hp} {σ : L2.St} {ds ds1 ds2 : DS} {vs ws : List V} {es es2 : List D} {x y : V} {d e : D} {X : Cx} {Q : VK} {fx : Nat → Bool} {E : Ends}
end
end Z
namespace Z
open PySem PySem.Spec L2
section
variable {K : KW} {mg : Str → Option Value} {f f1 f2 g1 g2 : List Addr} {G H G1 H1 G2 H2 : Hp} {σ : L2.St} {ds ds1 ds2 : DS} {vs ws : List V} {es es2 : List D} {x y : V} {d e : D} {X : Cx} {Q : VK} {fx : Nat → Bool} {E : Ends}
/-! ### dicts by nested tuples -/
section
variable {a b : Expr} {ma mb : ME} {nm : Str} {p pos : Pos}
end
/-! ### x[j].append(e), x a tuple that holds lists -/
/-! a, b = e, e a tuple whose parts may be owned -/
/-! tuple(x), x a name that holds a list, which stays as it is -/
/-! a, b, c = e, e a tuple whose parts may be owned -/
end
end Z
namespace L2
open PySem PySem.Spec PyProof.Rows
section
variable {X : Cx}
end
end L2
namespace Z
open PySem PySem.Spec L2
section
variable {K : KW} {mg : Str → Option Value} {f f1 f2 g1 g2 : List Addr} {G H G1 H1 G2 H2 : Hp} {σ : L2.St} {ds ds1 ds2 : DS} {vs ws : List V} {es es2 : List D} {x y : V} {d e : D} {X : Cx} {Q : VK} {fx : Nat → Bool} {E : Ends}
theorem NRel.keys : ∀ {kvs : List (NestedKey × V)} {xs : List NX}, Paired NRel kvs xs → kvs.map (·.1) = xs.map (·.1)
  | _, _, .nil => rfl
  | _, _, .cons a b => by rw [List.map_cons, List.map_cons, a.1, NRel.keys b]
/-! ### x[k][k2] = v, x a dict whose values are dicts by tuples -/
section
variable {κ : Type} [DecidableEq κ]
end
/-! len(x[k][n]), x a list of tuples that hold lists, as they are -/
/-! len(x[k]), x a list of lists, as they are -/
/-! ### x[k].append(e), x a list of owned lists -/
end
end Z
namespace SrtM
open PySem PySem.W PySem.Calls PyProof.Rows Builtin SrtO
/-! ### sorting tuples of a text and a tuple of ints -/
abbrev MV := Str × List Int
def kS (s : Str) : List Int := s.cps.toList.map Int.ofNat
/-- v is a tuple of that text and a tuple of those ints -/
def IsMV (h : Heap) (v : Value) (k : MV) : Prop := ∃ a o t b n, v = .ref a ∧ h.get? a = some o ∧ o.cls = .type "tuple" ∧ o.data = .seq #[.str k.1 t, .ref b] n ∧ ∃ its : Array Value, h.IsTuple b its ∧ IntsAre its.toList k.2
theorem nested_ints {h : Heap} : ∀ {vs : List Value} {ns : List Int}, IntsAre vs ns → NestedAll h (ns.map .num) vs
  | _, _, .nil => .nil
  | _, _, .cons a t r => .cons (.int a t) (nested_ints r)
section
variable {prog : Program} {w : World} {A : Around} {s : Shared} {E : Value → Shared → Prop}
end
/-! ### the one sorted list -/
end SrtM
namespace L2
open PySem PySem.Spec PyProof.Rows SrtM
/-- x is, in H, a tuple of that text and a tuple of those ints -/
def IsK (H : Hp) (x : V) (m : MV) : Prop := ∃ t b, x = V.ref t ∧ H t = some (.tup [.str m.1, .ref b]) ∧ H b = some (.tup (m.2.map V.int))
theorem IsK.mono {H H' : Hp} (g : ∀ p o, H p = some o → H' p = some o) {x : V} {m : MV} (h : IsK H x m) : IsK H' x m := by
  obtain ⟨t, b, e, h1, h2⟩ := h
  exact ⟨t, b, e, g _ _ h1, g _ _ h2⟩
theorem IsK.mv {X : Cx} {pins : List (Addr × Obj)} {σ : St} {H : Hp} {s : Shared} (I : Inv X pins σ H s) {x : V} {m : MV} (h : IsK H x m) {u : Value} (ru : RelV x u) : IsMV s.heap u m := by
  obtain ⟨t, b, rfl, h1, h2⟩ := h
  cases ru
  obtain ⟨_, its, r, o, ho, hc, n, hd⟩ := I.hok _ _ h1
  obtain ⟨u1, u2, rfl, ri, rj⟩ := vals2 r
  obtain ⟨t1, rfl⟩ := ri
  cases rj
  obtain ⟨_, its2, r2, o2, ho2, hc2, n2, hd2⟩ := I.hok _ _ h2
  exact ⟨t, o, t1, b, n, rfl, ho, hc, hd, its2.toArray, ⟨o2, ho2, hc2, n2, hd2⟩, intsAre_of r2⟩
section
variable {X : Cx}
end
end L2
namespace L2
open PySem PySem.Spec PyProof.Rows SrtM
section
variable {X : Cx}
end
end L2
namespace Z
open PySem PySem.Spec L2 SrtM
section
variable {K : KW} {mg : Str → Option Value} {f f1 f2 g1 g2 : List Addr} {G H G1 H1 G2 H2 : Hp} {σ : L2.St} {ds ds1 ds2 : DS} {vs ws : List V} {es es2 : List D} {x y : V} {d e : D} {X : Cx} {Q : VK} {fx : Nat → Bool} {E : Ends}
end
end Z
namespace Z
open PySem PySem.Spec L2
section
variable {K : KW} {mg : Str → Option Value} {f f1 f2 g1 g2 : List Addr} {G H G1 H1 G2 H2 : Hp} {σ : L2.St} {ds ds1 ds2 : DS} {vs ws : List V} {es es2 : List D} {x y : V} {d e : D} {X : Cx} {Q : VK} {fx : Nat → Bool} {E : Ends}
/-! ### xs.index(e), xs any list -/
end
end Z
namespace L2
open PySem PySem.Spec PyProof.Rows
section
variable {X : Cx} {ek ev : Expr} {pos : Pos} {tk tv : TE}
end
end L2
namespace Z
open PySem PySem.Spec L2
section
variable {K : KW} {mg : Str → Option Value} {f f1 f2 g1 g2 : List Addr} {G H G1 H1 G2 H2 : Hp} {σ : L2.St} {ds ds1 ds2 : DS} {vs ws : List V} {es es2 : List D} {x y : V} {d e : D} {X : Cx} {Q : VK} {fx : Nat → Bool} {E : Ends}
/-! ### the items of the dict in slot i are frozen, the dict is not -/
end
end Z
namespace Z
open PySem PySem.Spec L2
/-! ### instances of own classes -/
/-- the place of a name -/
def idxS : List Str → Str → Option Nat
  | [], _ => none
  | m :: ns, n => if m = n then some 0 else (idxS ns n).map (· + 1)
theorem idxS_none : ∀ {ns : List Str} {n : Str}, idxS ns n = none → ∀ {fs : List (Str × V)}, fs.map (·.1) = ns → fs.lookup n = none
  | [], _, _, fs, e => by
    cases fs with
    | nil => rfl
    | cons _ _ => cases e
  | m :: ns, n, h, fs, e => by
    cases fs with
    | nil => cases e
    | cons p fs =>
      obtain ⟨k, v⟩ := p
      simp only [List.map_cons, List.cons.injEq] at e
      obtain ⟨rfl, e⟩ := e
      unfold idxS at h
      split at h
      · cases h
      · rename_i hne
        have h' : idxS ns n = none := by
          cases q : idxS ns n with
          | none => rfl
          | some _ => rw [q] at h; cases h
        have : (n == k) = false := by
          rw [beq_eq_false_iff_ne]; exact fun z => hne z.symm
        rw [List.lookup_cons, this]
        exact idxS_none h' e
theorem idxS_some : ∀ {ns : List Str} {n : Str} {j : Nat}, idxS ns n = some j → ∀ {fs : List (Str × V)} {v : V}, fs.map (·.1) = ns → (fs.map (·.2))[j]? = some v → fs.lookup n = some v
  | [], _, _, h, _, _, _, _ => by cases h
  | m :: ns, n, j, h, fs, v, e, hv => by
    cases fs with
    | nil => cases e
    | cons p fs =>
      obtain ⟨k, u⟩ := p
      simp only [List.map_cons, List.cons.injEq] at e
      obtain ⟨rfl, e⟩ := e
      unfold idxS at h
      split at h
      · rename_i he
        cases h
        subst he
        have : u = v := by simpa using hv
        subst this
        simp [List.lookup_cons]
      · rename_i hne
        cases q : idxS ns n with
        | none => rw [q] at h; cases h
        | some i =>
          rw [q] at h
          cases h
          have : (n == k) = false := by
            rw [beq_eq_false_iff_ne]; exact fun z => hne z.symm
          rw [List.lookup_cons, this]
          exact idxS_some q e (by simpa using hv)
/-- fields with one stored -/
def setN (ns : List Str) (es : List D) (n : Str) (d : D) : List Str × List D := match idxS ns n with
  | some j => (ns, es.set j d)
  | none => (ns ++ [n], es ++ [d])
theorem putF_some : ∀ {ns : List Str} {n : Str} {j : Nat}, idxS ns n = some j → ∀ {fs : List (Str × V)} {v : V}, fs.map (·.1) = ns → (L2.putF n v fs).map (·.1) = ns ∧ (L2.putF n v fs).map (·.2) = (fs.map (·.2)).set j v
  | [], _, _, h, _, _, _ => by cases h
  | m :: ns, n, j, h, fs, v, e => by
    cases fs with
    | nil => cases e
    | cons p fs =>
      obtain ⟨k, u⟩ := p
      simp only [List.map_cons, List.cons.injEq] at e
      obtain ⟨rfl, e⟩ := e
      unfold idxS at h
      split at h
      · rename_i he
        cases h
        subst he
        simp [L2.putF, e]
      · rename_i hne
        cases q : idxS ns n with
        | none => rw [q] at h; cases h
        | some i =>
          rw [q] at h
          cases h
          obtain ⟨a, b⟩ := putF_some q (v := v) e
          simp only [L2.putF]
          rw [if_neg hne]
          simp [a, b]
theorem putF_none : ∀ {ns : List Str} {n : Str}, idxS ns n = none → ∀ {fs : List (Str × V)} {v : V}, fs.map (·.1) = ns → (L2.putF n v fs).map (·.1) = ns ++ [n] ∧ (L2.putF n v fs).map (·.2) = fs.map (·.2) ++ [v]
  | [], _, _, fs, v, e => by
    cases fs with
    | nil => simp [L2.putF]
    | cons _ _ => cases e
  | m :: ns, n, h, fs, v, e => by
    cases fs with
    | nil => cases e
    | cons p fs =>
      obtain ⟨k, u⟩ := p
      simp only [List.map_cons, List.cons.injEq] at e
      obtain ⟨rfl, e⟩ := e
      unfold idxS at h
      split at h
      · cases h
      · rename_i hne
        have h' : idxS ns n = none := by
          cases q : idxS ns n with
          | none => rfl
          | some _ => rw [q] at h; cases h
        obtain ⟨a, b⟩ := putF_none h' (v := v) e
        simp only [L2.putF]
        rw [if_neg hne]
        simp [a, b]
section
variable {K : KW} {mg : Str → Option Value} {f f1 f2 g1 g2 : List Addr} {G H G1 H1 G2 H2 : Hp} {σ : L2.St} {ds ds1 ds2 : DS} {vs ws : List V} {es es2 : List D} {x y : V} {d e : D} {X : Cx} {Q : VK} {fx : Nat → Bool} {E : Ends} {c n : Str} {ns : List Str} {i j : Nat}
theorem Owns.ins_inv {o : O} (h : Owns K mg G H [x] [.ins o c ns es] f) (g : Same G H) : ∃ a C dx fs f', x = .ref a ∧ H a = some (.ins C dx fs) ∧ mg c = some (.ref C) ∧ fs.map (·.1) = ns ∧ Owns K mg G H (fs.map (·.2)) es f' ∧ (∀ p ∈ f', p ∈ f) ∧ (f.Nodup → f'.Nodup) := by
  cases h with
  | fi e e2 e3 w q => cases q; exact ⟨_, _, _, _, _, rfl, g _ _ e, e2, e3, w, by simp, by simp⟩
  | oi e n e2 e3 w q => cases q; exact ⟨_, _, _, _, _, rfl, e, e2, e3, w, fun p hp => by simp [hp], fun hn => by simp only [List.append_nil, List.nodup_cons] at hn; exact hn.2⟩
theorem Owns.insO_inv (h : Owns K mg G H [x] [.ins .own c ns es] f) : ∃ a C dx fs f', x = .ref a ∧ H a = some (.ins C dx fs) ∧ G a = none ∧ mg c = some (.ref C) ∧ fs.map (·.1) = ns ∧ Owns K mg G H (fs.map (·.2)) es f' ∧ f = a :: f' := by
  cases h with
  | oi e n e2 e3 w q => cases q; exact ⟨_, _, _, _, _, rfl, e, n, e2, e3, w, by simp⟩
/-- what is asked of an own class -/
structure ClsD (K : PySem.W.Frag) (mg : Str → Option Value) (c : Str) (ns : List Str) : Prop where
  ex : ∃ C, mg c = some (.ref C) ∧ Cls K C ∧ ∀ n ∈ ns, NoAttr K C n
theorem ClsD.at {ns0 : List Str} (h : ClsD K.k mg c ns0) {C : Addr} (e : mg c = some (.ref C)) (hn : n ∈ ns0) : Cls K.k C ∧ NoAttr K.k C n := by
  obtain ⟨C', e', a, b⟩ := h.ex
  rw [e] at e'
  cases e'
  exact ⟨a, b n hn⟩
/-! o.f, clean -/
def fldD (n : Str) : D → Option D
  | .ins _ _ ns es => match idxS ns n with
    | some j => es[j]?
    | none => none
  | _ => none
def insC (c : Str) : D → Bool
  | .ins _ c' _ _ => decide (c' = c)
  | _ => false
/-- a field of the instance in slot i: clean -/
def mFld (i : Nat) (c n : Str) : ME := fun ds => match ds[i]? with
  | some (some d) => match fldD n d with
    | some e => if insC c d && clean e then some (e, ds) else none
    | none => none
  | _ => none
theorem Owns.fld (h : Owns K mg G H [x] [d] f) (g : Same G H) {e : D} (hf : fldD n d = some e) (hc : insC c d = true) : ∃ a C dx fs v f', x = .ref a ∧ H a = some (.ins C dx fs) ∧ mg c = some (.ref C) ∧ fs.lookup n = some v ∧ Owns K mg G H [v] [e] f' ∧ (∀ p ∈ f', p ∈ f) ∧ (f.Nodup → f'.Nodup) := by
  unfold fldD at hf
  split at hf
  · rename_i o c' ns es
    simp only [insC, decide_eq_true_eq] at hc
    subst hc
    split at hf
    · rename_i j hj
      obtain ⟨a, C, dx, fs, f', rfl, eH, eC, en, w, s1, m1⟩ := h.ins_inv g
      obtain ⟨v, f2, hv, w2, s2, m2⟩ := w.item hf
      exact ⟨a, C, dx, fs, v, f2, rfl, eH, eC, idxS_some hj en hv, w2, fun p hp => s1 p (s2 p hp), fun q => m2 (m1 q)⟩
    · cases hf
  · cases hf
theorem tm_fld {ns0 : List Str} (hC : ClsD K.k mg c ns0) (hn : n ∈ ns0) (h : tm K mg (mFld i c n) σ H Q) : tFld K.k (tVar i) n σ H Q := by
  obtain ⟨G, ds, f, d, ds', gh, o, nd, e, k⟩ := h
  unfold mFld at e
  split at e
  · rename_i d0 hi
    split at e
    · rename_i e0 he
      split at e
      · rename_i hc
        cases e
        rw [Bool.and_eq_true] at hc
        obtain ⟨v, fa, fb, fc, rfl, hv, ho, kk⟩ := o.split hi
        obtain ⟨a, C, dx, fs, u, f', rfl, eH, eC, el, w, s1, m1⟩ := ho.fld gh he hc.1
        obtain ⟨q1, q2⟩ := hC.at eC hn
        have := w.clean (clean_sing hc.2)
        subst this
        exact ⟨_, hv, a, C, dx, fs, u, rfl, eH, q1, q2, el, k u G H (Pst.map (f1 := fa ++ fb ++ fc) (f2 := []) (by simpa using Ext.refl gh _) o (by simpa using nd) (VPst.same gh w (by simp) List.nodup_nil))⟩
      · cases e
    · cases e
  · cases e
theorem xe_fld (i : Nat) {nm : Str} {p pos : Pos} {ns0 : List Str} (hC : ClsD X.K X.mg c ns0) (hn : n ∈ ns0 := by decide) (hb : attributeBase (.Name nm p) n X.env (eval (.Name nm p) X.env) = eval (.Name nm p) X.env := by rfl) (hN : X.N[i]? = some nm := by rfl) (hv : Vis X.env.scope nm := by first | exact Or.inl rfl | exact Or.inr (Or.inl rfl) | exact Or.inr (Or.inr rfl)) (hd : (nm == ("__debug__" : Str)) = false := by decide) (hcd : (nm == ("__classdict__" : Str)) = false := by decide) : XE X (.Attribute (.Name nm p) n pos) (mFld i c n) :=
  PE.mono (pe_fld (pe_var hN hv hd hcd) hb) fun _ _ _ h => tm_fld (K := X.kw) hC hn h
/-! a look at a field: op on the left, the field on the right -/
/-! o.f = e -/
def mSetF (i : Nat) (c n : Str) (me : ME) : MS := fun ds => match me ds with
  | some (d, ds1) => match ds1[i]? with
    | some (some (.ins .own c' ns es)) => if c' = c ∧ ns.length < 1000 then some (.nx (ds1.set i (some (.ins .own c' (setN ns es n d).1 (setN ns es n d).2)))) else none
    | _ => none
  | none => none
theorem ts_setF {me : ME} {ns0 : List Str} (hC : ClsD K.k mg c ns0) (hn : n ∈ ns0) (h : ts K mg fx (mSetF i c n me) E σ H) : sFld K.k (tVar i) (tm K mg me) n E σ H := by
  obtain ⟨G, ds, f, out, gh, o, nd, e, k⟩ := h
  unfold mSetF at e
  split at e
  case h_2 => cases e
  rename_i d ds1 e1
  split at e
  case h_2 => cases e
  rename_i c' ns es hi
  split at e
  case isFalse => cases e
  rename_i hc
  obtain ⟨rfl, hlen⟩ := hc
  cases e
  refine ⟨G, ds, f, d, _, gh, o, nd, e1, fun y G1 H1 p1 => ?_⟩
  obtain ⟨f1, f2, x1, o1, q1, n1⟩ := p1
  obtain ⟨v, fa, fb, fc, rfl, hv, ho, kk⟩ := o1.split hi
  obtain ⟨a, C, dx, fs, f', rfl, eH, eG, eC, en, w, rfl⟩ := ho.insO_inv
  obtain ⟨q2, q3⟩ := hC.at eC hn
  have hfl : fs.length < 1000 := by
    have := congrArg List.length en
    rw [List.length_map] at this; omega
  refine ⟨_, hv, a, C, dx, fs, rfl, eH, q2, q3, hfl, k σ (FixS.refl _ _) G1 _ ?_⟩
  have nn : ∀ p, p ∈ fa ∨ p ∈ fc ∨ p ∈ f' ∨ p ∈ f2 → p ≠ a := by
    intro p hp z
    subst z
    simp only [List.nodup_append, List.mem_append, List.nodup_cons, List.mem_cons] at n1
    rcases hp with hp | hp | hp | hp
    · exact n1.1.1.2.2 p hp p (.inl rfl) rfl
    · exact n1.1.2.2 p (.inr (.inl rfl)) p hp rfl
    · exact n1.1.1.2.1.1 hp
    · exact n1.2.2 p (.inl (.inr (.inl rfl))) p hp rfl
  have hk : ∀ p, p ≠ a → ∀ u, H1 p = some u → upd H1 a (.ins C dx (L2.putF n y fs)) p = some u := fun p hp u e => by rw [upd_ne hp]; exact e
  have hgh : Same G1 (upd H1 a (.ins C dx (L2.putF n y fs))) := fun p u e => hk p (fun z => by subst z; rw [eG] at e; cases e) u (x1.gh p u e)
  have w' : Owns K mg G1 (upd H1 a (.ins C dx (L2.putF n y fs))) (fs.map (·.2)) es f' := w.frame (Same.refl _) fun p hp => ⟨hk p (nn p (by simp [hp])), (w.here p hp).2⟩
  have q1' : Owns K mg G1 (upd H1 a (.ins C dx (L2.putF n y fs))) [y] [d] f2 := q1.frame (Same.refl _) fun p hp => ⟨hk p (nn p (by simp [hp])), (q1.here p hp).2⟩
  obtain ⟨_, k2⟩ := kk G1 (upd H1 a (.ins C dx (L2.putF n y fs))) (Same.refl G1) fun p hp => ⟨hk p (nn p (by rcases hp with h | h <;> simp [h])), (o1.here p (by rcases hp with h | h <;> simp [h])).2⟩
  have nf : (f' ++ f2).Nodup := by
    simp only [List.nodup_append, List.mem_append, List.nodup_cons, List.mem_cons] at n1 ⊢
    exact ⟨n1.1.1.2.1.2, n1.2.1, fun p hp q hq z => n1.2.2 p (.inl (.inr (.inr hp))) q hq z⟩
  obtain ⟨f'', w2, m2, s2⟩ : ∃ f'', Owns K mg G1 (upd H1 a (.ins C dx (L2.putF n y fs))) ((L2.putF n y fs).map (·.2)) (setN ns es n d).2 f'' ∧ f''.Nodup ∧ ∀ p ∈ f'', p ∈ f' ++ f2 := by
    unfold setN
    cases hj : idxS ns n with
    | some j =>
      rw [(putF_some hj (v := y) en).2]
      have hjl : j < es.length := by
        rw [← w.length, List.length_map]
        have : j < ns.length := by
          have : ∀ (ns : List Str) (j : Nat), idxS ns n = some j → j < ns.length := by
            intro ns
            induction ns with
            | nil => intro j h; cases h
            | cons m ns ih =>
              intro j h
              unfold idxS at h
              split at h
              · cases h; simp
              · cases q : idxS ns n with
                | none => rw [q] at h; cases h
                | some i => rw [q] at h; cases h; have := ih i q; simp; omega
          exact this ns j hj
        have e2 := congrArg List.length en
        rw [List.length_map] at e2; omega
      exact w'.set q1' nf hjl
    | none =>
      rw [(putF_none hj (v := y) en).2]
      exact ⟨_, w'.append q1', nf, fun p hp => hp⟩
  have en2 : (L2.putF n y fs).map (·.1) = (setN ns es n d).1 := by
    unfold setN
    cases hj : idxS ns n with
    | some j => exact (putF_some hj (v := y) en).1
    | none => exact (putF_none hj (v := y) en).1
  have o5 := k2 _ _ (Owns.oi (c := c') upd_same eG eC en2 w2 .nil)
  have ha2 : a ∉ f'' := fun h => by
    have := s2 a h
    simp only [List.mem_append] at this
    exact nn a (by rcases this with h | h <;> simp [h]) rfl
  refine ⟨_, [], ?_, o5, .nil, ?_⟩
  · refine ⟨hgh, x1.gg, fun p u e hp => ?_, fun p hp => ?_, x1.gn⟩
    · refine hk p (fun z => ?_) u (x1.keep p u e hp)
      subst z
      rcases x1.fpn p (by simp) with h | h
      · exact hp h
      · rw [h] at e; cases e
    · refine x1.fpn p ?_
      simp only [List.mem_append, List.mem_cons, List.append_nil] at hp s2 ⊢
      rcases hp with (h | h | h) | h
      · simp [h]
      · simp [h]
      · rcases s2 p h with h | h <;> simp [h]
      · simp [h]
  · simp only [List.nodup_append, List.mem_append, List.nodup_cons, List.mem_cons, List.append_nil] at n1 s2 ⊢
    refine ⟨⟨n1.1.1.1, ⟨ha2, m2⟩, fun p hp q hq z => ?_⟩, n1.1.2.1, fun p hp q hq z => ?_⟩
    · rcases hq with hq | hq
      · exact nn p (.inl hp) (z.trans hq)
      · rcases s2 q hq with h | h
        · exact n1.1.1.2.2 p hp q (.inr h) z
        · exact n1.2.2 p (.inl (.inl hp)) q h z
    · rcases hp with hp | hp | hp
      · exact n1.1.2.2 p (.inl hp) q hq z
      · exact nn q (.inr (.inl hq)) (z.symm.trans hp)
      · rcases s2 p hp with h | h
        · exact n1.1.2.2 p (.inr (.inr h)) q hq z
        · exact n1.2.2 q (.inr hq) p h z.symm
theorem xs_setF (i : Nat) {nm : Str} {p pos' pos : Pos} {e : Expr} {me : ME} {ns0 : List Str} (hC : ClsD X.K X.mg c ns0) (he : XE X e me) (hn : n ∈ ns0 := by decide) (hN : X.N[i]? = some nm := by rfl) (hv : Vis X.env.scope nm := by first | exact Or.inl rfl | exact Or.inr (Or.inl rfl) | exact Or.inr (Or.inr rfl)) (hd : (nm == ("__debug__" : Str)) = false := by decide) (hcd : (nm == ("__classdict__" : Str)) = false := by decide)
    (hs : swapsWith e (some (.Attribute (.Name nm p) n pos')) pos.line X.env = pure false := by rfl) : XS X fx (.Assign [.Attribute (.Name nm p) n pos'] e pos) (mSetF i c n me) :=
  PS.mono (ps_fld (pe_var hN hv hd hcd) he hs) fun _ _ _ h => ts_setF (K := X.kw) hC hn h
end
end Z
namespace Z
open PySem PySem.Spec L2
section
variable {K : KW} {mg : Str → Option Value} {f f1 f2 g1 g2 : List Addr} {G H G1 H1 G2 H2 : Hp} {σ : L2.St} {ds ds1 ds2 : DS} {vs ws : List V} {es es2 : List D} {x y : V} {d e d0 : D} {X : Cx} {Q : VK} {fx : Nat → Bool} {E : Ends} {c n : Str} {ns : List Str} {i j : Nat}
/-- the key is read while the instance stands aside -/
theorem Pst.beside (x1 : Ext f G H (f1 ++ f2) G1 H1) (o1 : OwnS K mg G1 H1 σ ds1 f1) (w1 : Owns K mg G1 H1 [y] [d] f2) (n1 : (f1 ++ f2).Nodup) (hi : ds1[i]? = some (some (.ins .own c ns es))) :
    ∃ x ft fi, σ[i]? = some (some x) ∧ Owns K mg G1 H1 [x] [.ins .own c ns es] fi ∧ OwnS K mg G1 H1 σ (ds1.set i none) ft ∧ ft.Nodup ∧
      ∀ {ds2 : DS} {vs2 : List V} {es2 : List D} {G2 H2 : Hp}, Pst K mg ft G1 H1 σ ds2 vs2 es2 G2 H2 → ∃ g1 g2, (∀ q ∈ fi, ∀ o, H1 q = some o → H2 q = some o) ∧ Ext f G H (g1 ++ (fi ++ (f2 ++ g2))) G2 H2 ∧ OwnS K mg G2 H2 σ ds2 g1 ∧ Owns K mg G2 H2 [x] [.ins .own c ns es] fi ∧ Owns K mg G2 H2 [y] [d] f2 ∧ Owns K mg G2 H2 vs2 es2 g2 ∧ (g1 ++ (fi ++ (f2 ++ g2))).Nodup := by
  obtain ⟨v, fa, fb, fc, rfl, hv, ho, kk⟩ := o1.split hi
  obtain ⟨k1, _⟩ := kk G1 H1 (Same.refl _) fun p hp => ⟨fun o e => e, (o1.here p (by rcases hp with h | h <;> simp [h])).2⟩
  have nt : (fa ++ fc).Nodup := by
    simp only [List.nodup_append, List.mem_append] at n1 ⊢
    exact ⟨n1.1.1.1, n1.1.2.1, fun p hp q hq z => n1.1.2.2 p (.inl hp) q hq z⟩
  refine ⟨v, fa ++ fc, fb, hv, ho, k1, nt, fun {ds2 vs2 es2 G2 H2} p => ?_⟩
  obtain ⟨g1, g2, y2, o2, w2, n2⟩ := p
  have hr : ∀ q ∈ fb ++ f2, (∃ o, H1 q = some o) ∧ G1 q = none := fun q hq => by
    rcases List.mem_append.mp hq with h | h
    · exact ho.here q h
    · exact w1.here q h
  have nr : ∀ q ∈ fb ++ f2, q ∉ fa ++ fc := fun q hq hq2 => by
    simp only [List.nodup_append, List.mem_append] at n1 hq hq2
    rcases hq with h | h <;> rcases hq2 with h2 | h2
    · exact n1.1.1.2.2 q h2 q h rfl
    · exact n1.1.2.2 q (.inr h) q h2 rfl
    · exact n1.2.2 q (.inl (.inl h2)) q h rfl
    · exact n1.2.2 q (.inr h2) q h rfl
  have fr := y2.aside hr nr
  have ap := y2.apart hr nr
  have z := y2.frame (fb ++ f2) hr
  have x1' : Ext f G H ((fa ++ fc) ++ (fb ++ f2)) G1 H1 := x1.less fun q hq => by
    simp only [List.mem_append] at hq ⊢
    rcases hq with (h | h) | h | h <;> simp [h]
  refine ⟨g1, g2, fun q hq => (fr q (List.mem_append_left _ hq)).1, (x1'.trans z).less ?_, o2, ho.frame y2.gg fun q hq => fr q (List.mem_append_left _ hq), w1.frame y2.gg fun q hq => fr q (List.mem_append_right _ hq), w2, ?_⟩
  · intro q hq
    simp only [List.mem_append] at hq ⊢
    rcases hq with h | h | h | h <;> simp [h]
  · have nb : (fb ++ f2).Nodup := by
      simp only [List.nodup_append, List.mem_append] at n1 ⊢
      exact ⟨n1.1.1.2.1, n1.2.1, fun p hp q hq z => n1.2.2 p (.inl (.inr hp)) q hq z⟩
    simp only [List.nodup_append, List.mem_append] at n2 nb ap ⊢
    refine ⟨n2.1, ⟨nb.1, ⟨nb.2.1, n2.2.1, fun p hp q hq z => ap p (.inr hp) (.inr (z ▸ hq))⟩, fun p hp q hq z => ?_⟩, fun p hp q hq z => ?_⟩
    · rcases hq with hq | hq
      · exact nb.2.2 p hp q hq z
      · exact ap p (.inl hp) (.inr (z ▸ hq))
    · rcases hq with hq | hq | hq
      · exact ap q (.inl hq) (.inl (z ▸ hp))
      · exact ap q (.inr hq) (.inl (z ▸ hp))
      · exact n2.2.2 p hp q hq z
/-! ### o.f[k] = e, the field a dict -/
end
end Z
namespace Z
open PySem PySem.Spec L2
section
variable {K : KW} {mg : Str → Option Value} {f f1 f2 g1 g2 : List Addr} {G H G1 H1 G2 H2 : Hp} {σ : L2.St} {ds ds1 ds2 : DS} {vs ws : List V} {es es2 : List D} {x y : V} {d e d0 : D} {X : Cx} {Q : VK} {fx : Nat → Bool} {E : Ends} {c n m : Str} {ns : List Str} {i j : Nat}
/-! ### o.m(..), o in slot i -/
structure MethD (P : Program) (w : World) (K : PySem.W.Frag) (mg : Str → Option Value) (base : Heap) (k : Nat) (c m : Str) (np : Nat) (F : List D → Option (D × DS)) : Prop where
  ex : ∃ C f fd ps, mg c = some (.ref C) ∧ Cls K C ∧ Meth K C m f ∧ Binds K fd ps [] ∧ ps.length = np ∧ FnOk P w K mg base CX0 k f fd ps (spF ⟨K, w⟩ mg np F)
def insM (c m : Str) : D → Bool
  | .ins _ c' ns _ => decide (c' = c) && (idxS ns m).isNone
  | _ => false
def mMeth (i : Nat) (c m : Str) (F : List D → Option (D × DS)) (args : List Arg) : ME := fun ds => match ds[i]? with
  | some (some d) => if insM c m d then mCall F (.bo i :: args) ds else none
  | _ => none
theorem tm_meth {np : Nat} {F : List D → Option (D × DS)} {args : List Arg} {E : XK} {C : Addr} (hc : mg c = some (.ref C)) (hl : args.length + 1 = np) (h : tm K mg (mMeth i c m F args) σ H Q) : tMeth C m (spF K mg np F) [] E (tVar i) (tArgs K mg args) σ H Q := by
  obtain ⟨G, ds, f, d, ds', gh, o, nd, e, k⟩ := h
  unfold mMeth at e
  split at e
  · rename_i d0 hi
    split at e
    · rename_i hm
      obtain ⟨v, fa, fb, fc, hf, hv, ho, kk⟩ := o.split hi
      have hi2 : ∃ a dx fs, v = .ref a ∧ H a = some (.ins C dx fs) ∧ fs.lookup m = none := by
        unfold insM at hm
        split at hm
        · rw [Bool.and_eq_true, decide_eq_true_eq] at hm
          obtain ⟨rfl, hm⟩ := hm
          obtain ⟨a, C', dx, fs, f', h1, h2, h3, h4, _, _, _⟩ := ho.ins_inv gh
          rw [hc] at h3
          cases h3
          exact ⟨a, dx, fs, h1, h2, idxS_none (by simpa using hm) h4⟩
        · cases hm
      obtain ⟨a, dx, fs, rfl, ha, hlk⟩ := hi2
      have := tm_call (E := E) (args := .bo i :: args) (np := np) (by simpa using hl) ⟨G, ds, f, d, ds', gh, o, nd, e, k⟩
      obtain ⟨v2, hv2, rest⟩ := this
      rw [hv] at hv2
      cases hv2
      exact ⟨_, hv, a, dx, fs, rfl, ha, hlk, rest⟩
    · cases e
  · cases e
theorem xe_meth (i : Nat) {k np : Nat} {nm : Str} {p apos pos : Pos} {F : List D → Option (D × DS)} {a0 : Expr} {as : List Expr} {args : List Arg} (D : MethD X.prog X.w X.K X.mg X.base k c m np F) (hr : Room k X.A) (ha : XAr X (a0 :: as) args) (hl : args.length + 1 = np := by rfl) (hN : X.N[i]? = some nm := by rfl) (hv : Vis X.env.scope nm := by first | exact Or.inl rfl | exact Or.inr (Or.inl rfl) | exact Or.inr (Or.inr rfl)) (hd : (nm == ("__debug__" : Str)) = false := by decide) (hcd : (nm == ("__classdict__" : Str)) = false := by decide)
    (hst : starEach (a0 :: as) X.env = (false, eval a0 X.env) :: starEach as X.env := by rfl) (hpl : (backTo pos (starEach as X.env)).any (·.1) = false := by rfl) {pl : Sem Bool}
    (ht : eval (.Call (.Attribute (.Name nm p) m apos) (a0 :: as) [] pos) X.env = (do
      let ov ← eval (.Name nm p) X.env
      standAt apos.atName
      let (f, first) ← holding [ov] (getMethod ov m pl)
      callWith pos f first (backTo pos (starEach (a0 :: as) X.env)) (backToKw pos (keywordEach [] X.env))) := by rfl) : XE X (.Call (.Attribute (.Name nm p) m apos) (a0 :: as) [] pos) (mMeth i c m F args) := by
  obtain ⟨C, f, fd, ps, hc, hcl, hm, hb, hn, G⟩ := D.ex
  exact PE.mono (pe_meth (pl := pl) (pe_var hN hv hd hcd) hcl hm G hr hb .nil (fun _ _ _ _ _ _ _ h => h.elim) ha hst hpl ht (E := fun _ _ _ => False)) fun _ _ _ h => tm_meth (K := X.kw) hc hl h
theorem xe_meth0 (i : Nat) {k : Nat} {nm : Str} {p apos pos : Pos} {F : List D → Option (D × DS)} (D : MethD X.prog X.w X.K X.mg X.base k c m 1 F) (hr : Room k X.A) (hN : X.N[i]? = some nm := by rfl) (hv : Vis X.env.scope nm := by first | exact Or.inl rfl | exact Or.inr (Or.inl rfl) | exact Or.inr (Or.inr rfl)) (hd : (nm == ("__debug__" : Str)) = false := by decide) (hcd : (nm == ("__classdict__" : Str)) = false := by decide) {pl : Sem Bool}
    (ht : eval (.Call (.Attribute (.Name nm p) m apos) [] [] pos) X.env = (do
      let ov ← eval (.Name nm p) X.env
      standAt apos.atName
      let (f, first) ← holding [ov] (getMethod ov m pl)
      callWith pos f first (backTo pos (starEach [] X.env)) (backToKw pos (keywordEach [] X.env))) := by rfl) : XE X (.Call (.Attribute (.Name nm p) m apos) [] [] pos) (mMeth i c m F []) := by
  obtain ⟨C, f, fd, ps, hc, hcl, hm, hb, hn, G⟩ := D.ex
  exact PE.mono (pe_meth0 (pl := pl) (pe_var hN hv hd hcd) hcl hm G hr hb .nil (fun _ _ _ _ _ _ _ h => h.elim) ht (E := fun _ _ _ => False)) fun _ _ _ h => tm_meth (K := X.kw) (args := []) hc rfl h
/-! ### C(..) -/
structure MakeD (P : Program) (w : World) (K : PySem.W.Frag) (mg : Str → Option Value) (base : Heap) (k : Nat) (c : Str) (np : Nat) (F : List D → Option (D × DS)) : Prop where
  ex : ∃ C f fd ps, mg c = some (.ref C) ∧ Mk K C f ∧ Binds K fd ps [] ∧ ps.length = np ∧ FnOk P w K mg base CX0 k f fd ps (spF ⟨K, w⟩ mg np F)
def mMake (c : Str) (F : List D → Option (D × DS)) (args : List Arg) : ME := fun ds => match mArgs args ds with
  | some (rs, ds1) => match take rs ds1 with
    | some (as, ds2) => match F (.ins .own c [] [] :: as) with
      | some (.v .non, some d :: os) => some (d, put rs as os ds2)
      | _ => none
    | none => none
  | none => none
theorem tm_make {np : Nat} {F : List D → Option (D × DS)} {args : List Arg} {E : XK} {C : Addr} (hc : mg c = some (.ref C)) (hl : args.length + 1 = np) (h : tm K mg (mMake c F args) σ H Q) : tMake C (spF K mg np F) [] E (tArgs K mg args) σ H Q := by
  obtain ⟨G, ds, f, d, ds', gh, o, n, e, k⟩ := h
  unfold mMake at e
  split at e
  · rename_i rs ds1 e1
    split at e
    · rename_i as ds2 e2
      split at e
      · rename_i d0 os e3
        cases e
        refine args_ok args gh o n e1 fun vs G1 H1 p1 => ?_
        obtain ⟨f1, f2, x1, o1, q1, n1⟩ := p1
        obtain ⟨f3, f4, o3, o4, n3, s3⟩ := take_ok o1 q1 n1 e2
        have nn := List.nodup_append.mp n3
        have hrs : rs.length = args.length := mArgs_len e1
        intro p dx hp hdx hne
        rw [List.append_nil]
        -- the heap with the new instance
        obtain ⟨H2, hH2⟩ : ∃ H2, upd (upd H1 dx (.own p)) p (.ins C dx []) = H2 := ⟨_, rfl⟩
        have up : ∀ q u, H1 q = some u → H2 q = some u := fun q u e => by
          rw [← hH2, upd_ne (ne_of_none e hp), upd_ne (ne_of_none e hdx)]; exact e
        have hH2p : H2 p = some (.ins C dx []) := by rw [← hH2]; exact upd_same
        rw [hH2]
        have gp : G1 p = none := not_g x1.gh hp
        have g12 : Same G1 H2 := fun q u e => up q u (x1.gh q u e)
        have o4' : Owns K mg G1 H2 vs as f4 := o4.frame (Same.refl _) fun q hq => ⟨up q, (o4.here q hq).2⟩
        have o3' : OwnS K mg G1 H2 σ ds2 f3 := o3.frame (Same.refl _) fun q hq => ⟨up q, (o3.here q hq).2⟩
        have wi : Owns K mg G1 H2 (.ref p :: vs) (.ins .own c [] [] :: as) (p :: ([] ++ f4)) := .oi (fs := []) hH2p gp hc rfl .nil o4'
        have pf4 : p ∉ f4 := fun h => by
          obtain ⟨⟨o, e⟩, _⟩ := o4.here p h
          rw [hp] at e; cases e
        have pf3 : p ∉ f3 := fun h => by
          obtain ⟨⟨o, e⟩, _⟩ := o3.here p h
          rw [hp] at e; cases e
        refine ⟨by simp [q1.length, hrs, ← hl], G1, _, p :: ([] ++ f4), _, _, g12, wi, by simpa using ⟨pf4, nn.2.1⟩, e3, fun v G3 H3 p3 => ?_⟩
        obtain ⟨g1, g2, y, o5, q5, n5⟩ := p3
        rw [List.nil_append] at y
        obtain ⟨rfl, rfl⟩ := q5.v_inv
        refine ⟨rfl, k (.ref p) G3 H3 ?_⟩
        rw [List.append_nil] at y n5
        -- the slots of what was handed in: the instance, and the others
        obtain ⟨h1, h2, rfl, w1, o6⟩ : ∃ h1 h2, g1 = h1 ++ h2 ∧ Owns K mg G3 H3 [.ref p] [d] h1 ∧ OwnS K mg G3 H3 (vs.map some) os h2 := by
          cases o5 with
          | yes a b => exact ⟨_, _, rfl, a, b⟩
        have hh := o3'.here
        have nd : ∀ q ∈ f3, q ∉ p :: f4 := fun q h z => by
          rcases List.mem_cons.mp z with rfl | z
          · exact pf3 h
          · exact nodup_disj n3 q z h
        have o3'' := o3'.frame y.gg (y.aside hh nd)
        have ap := y.apart hh nd
        have n5' := List.nodup_append.mp n5
        have q1' : OwnA K mg G1 H2 σ vs rs f2 := q1.frame (Same.refl _) fun q hq => ⟨up q, (q1.here q hq).2⟩
        obtain ⟨f', o', n', s'⟩ := put_ok (as := as) o3'' q1' o6 (by
          rw [List.nodup_append]
          exact ⟨nn.1, n5'.2.1, fun a ha b hb e => ap a ha (List.mem_append_right _ (e ▸ hb))⟩)
        have z : Ext ((p :: f4) ++ f3) G1 H2 ((h1 ++ h2) ++ f3) G3 H3 := y.frame f3 hh
        have z0 : Ext f G H (f4 ++ f3) G1 H1 := x1.less fun p hp => s3 p (by simp only [List.mem_append] at hp ⊢; exact hp.symm)
        have znew : Ext (f4 ++ f3) G1 H1 ((p :: f4) ++ f3) G1 H2 := by
          refine ⟨g12, Same.refl _, fun q u e _ => up q u e, fun q hq => ?_, fun _ _ e _ _ => e⟩
          rcases List.mem_cons.mp (show q ∈ p :: (f4 ++ f3) by simpa using hq) with rfl | h
          · exact .inr hp
          · exact .inl h
        refine ⟨f', h1, ((z0.trans znew).trans z).less ?_, o', w1, ?_⟩
        · intro q hq
          simp only [List.mem_append] at hq s' ⊢
          rcases hq with h | h
          · rcases s' q h with h | h <;> simp [h]
          · simp [h]
        · rw [List.nodup_append]
          refine ⟨n', n5'.1, fun a ha b hb e => ?_⟩
          rcases List.mem_append.mp (s' a ha) with h | h
          · exact ap a h (List.mem_append_left _ (e ▸ hb))
          · exact n5'.2.2 b hb a h e.symm
      · cases e
    · cases e
  · cases e
theorem xe_make {k np : Nat} {F : List D → Option (D × DS)} {p pos : Pos} {a0 : Expr} {as : List Expr} {args : List Arg} (D : MakeD X.prog X.w X.K X.mg X.base k c np F) (hr : Room (k + 1) X.A) (ha : XAr X (a0 :: as) args) (hg : Gl X c := by rfl) (hl : args.length + 1 = np := by rfl) (hdb : (c == ("__debug__" : Str)) = false := by decide) (he : starEach (a0 :: as) X.env = (false, eval a0 X.env) :: starEach as X.env := by rfl) (hpl : (backTo pos (starEach as X.env)).any (·.1) = false := by rfl) : XE X (.Call (.Name c p) (a0 :: as) [] pos) (mMake c F args) := by
  obtain ⟨C, f, fd, ps, hc, M, hb, hn, G⟩ := D.ex
  exact PE.mono (pe_make M G hr hg hc hb .nil (fun _ _ _ _ _ _ _ h => h.elim) ha hdb he hpl (E := fun _ _ _ => False)) fun _ _ _ h => tm_make (K := X.kw) hc hl h
/-! ### e.f, e an instance that is no more wanted -/
/-! x in o.f, x not in o.f: the field a dict by nested keys -/
end
end Z
namespace L2
open PySem PySem.Spec PyProof.Rows
/-! ### a dict by tuples is walked: its keys, its pairs -/
section
variable {P : Program} {w : World} {K : PySem.W.Frag} {tg : Expr} {d : Addr} {ys : List NX} {ep : Nat}
end
section
variable {X : Cx} {tg e : Expr} {td : TE} {apos cpos : Pos}
end
end L2
namespace Z
open PySem PySem.Spec L2
section
variable {K : KW} {mg : Str → Option Value} {f f1 f2 g1 g2 : List Addr} {G H G1 H1 G2 H2 : Hp} {σ : L2.St} {ds ds1 ds2 : DS} {vs ws : List V} {es es2 : List D} {x y : V} {d e d0 : D} {X : Cx} {Q : VK}
/-! ### a dict by tuples is walked -/
end
end Z
namespace Z
open PySem PySem.Spec L2
section
variable {K : KW} {mg : Str → Option Value} {f f1 f2 g1 g2 : List Addr} {G H G1 H1 G2 H2 : Hp} {σ : L2.St} {ds ds1 ds2 : DS} {vs ws : List V} {es es2 : List D} {x y : V} {d e : D} {X : Cx} {Q : VK} {fx : Nat → Bool} {E : Ends}
/-! ### t = x[0][x[1] % len(x[0])]; x[1] = x[1] + 1; the rest, where x is not named: t is put back at its end -/
/-! x.index(e) of texts, where it is found -/
end
end Z
namespace SrtG
open PySem PySem.W PySem.Calls PyProof.Rows Builtin SrtO SrtM
/-! ### sorting tuples of ints, texts and tuples of ints -/
inductive GI
  | n (i : Int)
  | s (x : Str)
  | t (l : List Int)
  deriving DecidableEq
abbrev GK := List GI
def GI.kd : GI → Nat
  | .n _ => 0
  | .s _ => 1
  | .t _ => 2
def GI.code : GI → List Int
  | .n i => [0, i]
  | .s x => 1 :: kS x
  | .t l => 2 :: l
def GI.key : GI → NestedKey
  | .n i => .num i
  | .s x => .text x
  | .t l => .tup (l.map .num)
inductive IsIt (h : Heap) : Value → GI → Prop
  | n (i t) : IsIt h (.int i t) (.n i)
  | s (x t) : IsIt h (.str x t) (.s x)
  | t {b its l} : h.IsTuple b its → IntsAre its.toList l → IsIt h (.ref b) (.t l)
inductive ItsAre (h : Heap) : List Value → GK → Prop
  | nil : ItsAre h [] []
  | cons {v k vs ks} : IsIt h v k → ItsAre h vs ks → ItsAre h (v :: vs) (k :: ks)
theorem IsIt.nested {h : Heap} {v : Value} {k : GI} (p : IsIt h v k) : NestedIs h k.key v := by
  cases p with
  | n i t => exact .int i t
  | s x t => exact .text x t
  | t hb hi =>
    obtain ⟨o2, g2, c2, n2, d2⟩ := hb
    exact .tup g2 c2 d2 (SrtM.nested_ints hi)
theorem ItsAre.len {h : Heap} : ∀ {vs : List Value} {ks : GK}, ItsAre h vs ks → vs.length = ks.length
  | _, _, .nil => rfl
  | _, _, .cons _ r => by rw [List.length_cons, List.length_cons, r.len]
section
variable {prog : Program} {w : World} {A : Around} {s : Shared} {E : Value → Shared → Prop}
end
/-! ### the one sorted list -/
end SrtG
namespace L2
open PySem PySem.Spec PyProof.Rows SrtM SrtG
/-- what the values of a tuple are -/
inductive ItsV (H : Hp) : List V → GK → Prop
  | nil : ItsV H [] []
  | n (i : Int) {vs ks} : ItsV H vs ks → ItsV H (.int i :: vs) (.n i :: ks)
  | s (x : Str) {vs ks} : ItsV H vs ks → ItsV H (.str x :: vs) (.s x :: ks)
  | t {b : Addr} {l : List Int} {vs ks} : H b = some (.tup (l.map V.int)) → ItsV H vs ks → ItsV H (.ref b :: vs) (.t l :: ks)
def IsG (H : Hp) (x : V) (m : GK) : Prop := ∃ t vs, x = V.ref t ∧ H t = some (.tup vs) ∧ ItsV H vs m
theorem ItsV.mono {H H' : Hp} (g : ∀ p o, H p = some o → H' p = some o) : ∀ {vs : List V} {m : GK}, ItsV H vs m → ItsV H' vs m
  | _, _, .nil => .nil
  | _, _, .n i r => .n i (r.mono g)
  | _, _, .s x r => .s x (r.mono g)
  | _, _, .t h r => .t (g _ _ h) (r.mono g)
theorem IsG.mono {H H' : Hp} (g : ∀ p o, H p = some o → H' p = some o) {x : V} {m : GK} (h : IsG H x m) : IsG H' x m := by
  obtain ⟨t, b, e, h1, h2⟩ := h
  exact ⟨t, b, e, g _ _ h1, h2.mono g⟩
theorem ItsV.are {X : Cx} {pins : List (Addr × Obj)} {σ : St} {H : Hp} {s : Shared} (I : Inv X pins σ H s) : ∀ {vs : List V} {m : GK} {us : List Value}, ItsV H vs m → Vals vs us → ItsAre s.heap us m
  | _, _, _, .nil, r => by cases r; exact .nil
  | _, _, _, .n i h, r => by
    cases r with
    | cons ri rr =>
      obtain ⟨t1, rfl⟩ := ri
      exact .cons (.n i t1) (h.are I rr)
  | _, _, _, .s x h, r => by
    cases r with
    | cons ri rr =>
      obtain ⟨t1, rfl⟩ := ri
      exact .cons (.s x t1) (h.are I rr)
  | _, _, _, .t hb h, r => by
    cases r with
    | cons ri rr =>
      cases ri
      obtain ⟨_, its2, r2, o2, ho2, hc2, n2, hd2⟩ := I.hok _ _ hb
      exact .cons (.t (its := its2.toArray) ⟨o2, ho2, hc2, n2, hd2⟩ (intsAre_of r2)) (h.are I rr)
section
variable {X : Cx}
end
end L2
namespace Z
open PySem PySem.Spec L2 SrtM SrtG
section
variable {K : KW} {mg : Str → Option Value} {f f1 f2 g1 g2 : List Addr} {G H G1 H1 G2 H2 : Hp} {σ : L2.St} {ds ds1 ds2 : DS} {vs ws : List V} {es es2 : List D} {x y : V} {d e : D} {X : Cx} {Q : VK} {fx : Nat → Bool} {E : Ends}
end
end Z
namespace Z
open PySem PySem.Spec L2
section
variable {K : KW} {mg : Str → Option Value} {f f1 f2 g1 g2 : List Addr} {G H G1 H1 G2 H2 : Hp} {σ : L2.St} {ds ds1 ds2 : DS} {vs ws : List V} {es es2 : List D} {x y : V} {d e : D} {X : Cx} {Q : VK} {fx : Nat → Bool} {E : Ends}
/-! ### an expression that only looks: all names are known while it runs, and stay as they were -/
def plain : D → Bool
  | .v _ => true
  | _ => false
end
end Z
namespace Z
open PySem PySem.Spec L2
section
variable {K : KW} {mg : Str → Option Value} {f f1 f2 g1 g2 : List Addr} {G H G1 H1 G2 H2 : Hp} {σ : L2.St} {ds ds1 ds2 : DS} {vs ws : List V} {es es2 : List D} {x y : V} {d e : D} {X : Cx} {Q : VK} {fx : Nat → Bool} {E : Ends}
/-! ### min(xs), max(xs) of a list of ints -/
/-! ### x in xs, x not in xs: xs a list of nested data -/
end
end Z
namespace Z
open PySem PySem.Spec L2
section
variable {K : KW} {mg : Str → Option Value} {f f1 f2 g1 g2 : List Addr} {G H G1 H1 G2 H2 : Hp} {σ : L2.St} {ds ds1 ds2 : DS} {vs ws : List V} {es es2 : List D} {x y : V} {d e : D} {X : Cx} {Q : VK} {fx : Nat → Bool} {E : Ends}
/-! ### for a, b in x: of each pair of an own list the second one is owned while the turn runs -/
end
end Z
namespace SrtG
open PySem PySem.W PySem.Calls PyProof.Rows Builtin SrtO SrtM
/-! t < u of tuples of ints and tuples of ints, alike in kind place by place -/
theorem ItsAre.at {h : Heap} : ∀ {vs : List Value} {ks : GK} (_ : ItsAre h vs ks) (j : Nat) (hj : j < vs.length), ∃ k, ks[j]? = some k ∧ IsIt h vs[j] k
  | _, _, .nil, j, hj => absurd hj (by simp)
  | _, _, .cons a r, 0, _ => ⟨_, rfl, a⟩
  | _, _, .cons a r, j + 1, hj => by
    obtain ⟨k, h1, h2⟩ := r.at j (by simpa using hj)
    exact ⟨k, by simpa using h1, by simpa using h2⟩
end SrtG
namespace L2
open PySem PySem.Spec PySem.W PySem.Calls PyProof.Rows SrtG
end L2
namespace Z
open PySem PySem.Spec L2
section
variable {K : KW} {mg : Str → Option Value} {f f1 f2 g1 g2 : List Addr} {G H G1 H1 G2 H2 : Hp} {σ : L2.St} {ds ds1 ds2 : DS} {vs ws : List V} {es es2 : List D} {x y : V} {d e : D} {X : Cx} {Q : VK} {fx : Nat → Bool} {E : Ends}
open SrtG
/-! while, as long as it lasts -/
end
end Z
namespace L2
open PySem PySem.Spec PyProof.Rows
/-! a > b of two lists of ints -/
end L2
namespace Z
open PySem PySem.Spec L2
section
variable {K : KW} {mg : Str → Option Value} {f f1 f2 g1 g2 : List Addr} {G H G1 H1 G2 H2 : Hp} {σ : L2.St} {ds ds1 ds2 : DS} {vs ws : List V} {es es2 : List D} {x y : V} {d e : D} {X : Cx} {Q : VK} {fx : Nat → Bool} {E : Ends}
/-! dict(x) of a list of pairs, the keys unlike -/
theorem putK_new {kvs : List (Key × V)} {k : Key} {v : V} (h : k ∉ kvs.map (·.1)) : putK kvs k v = kvs ++ [(k, v)] := by
  unfold putK
  rw [if_neg]
  intro z
  obtain ⟨p, hp, e⟩ := List.any_eq_true.mp z
  exact h (List.mem_map.mpr ⟨p, hp, of_decide_eq_true e⟩)
end
end Z
namespace Z
open PySem PySem.Spec L2
section
variable {K : KW} {mg : Str → Option Value} {f f1 f2 g1 g2 : List Addr} {G H G1 H1 G2 H2 : Hp} {σ : L2.St} {ds ds1 ds2 : DS} {vs ws : List V} {es es2 : List D} {x y : V} {d e : D} {X : Cx} {Q : VK} {fx : Nat → Bool} {E : Ends}
/-! ### looking only, with any new value of lists and tuples -/
end
end Z
namespace Z
open PySem PySem.Spec L2
section
variable {K : KW} {mg : Str → Option Value} {f f1 f2 g1 g2 : List Addr} {G H G1 H1 G2 H2 : Hp} {σ : L2.St} {ds ds1 ds2 : DS} {vs ws : List V} {es es2 : List D} {x y : V} {d e : D} {X : Cx} {Q : VK} {fx : Nat → Bool} {E : Ends}
/-! ### x[k].append(e), x a dict of owned lists -/
end
end Z
namespace Z
open PySem PySem.Spec L2 RZ
section
variable {K : KW} {mg : Str → Option Value} {f f1 f2 g1 g2 : List Addr} {G H G1 H1 G2 H2 : Hp} {σ : L2.St} {ds ds1 ds2 : DS} {vs ws : List V} {es es2 : List D} {x y : V} {d e : D} {X : Cx} {Q : VK} {fx : Nat → Bool} {E : Ends}
/-! ### zip(a, b): two lists or two tuples -/
end
end Z
namespace L2
open PySem PySem.Spec PyProof.Rows
/-! a < b of two lists of ints -/
end L2
namespace Z
open PySem PySem.Spec L2
section
variable {K : KW} {mg : Str → Option Value} {f f1 f2 g1 g2 : List Addr} {G H G1 H1 G2 H2 : Hp} {σ : L2.St} {ds ds1 ds2 : DS} {vs ws : List V} {es es2 : List D} {x y : V} {d e : D} {X : Cx} {Q : VK} {fx : Nat → Bool} {E : Ends}
end
end Z
namespace Z
open PySem L2
/-! ### lengths of texts -/
abbrev okT (s : Str) : Bool := PyData.strOk s
theorem okT_iff (s : Str) : okT s = true ↔ ∀ c ∈ s.cps.toList, c < 0x110000 := by
  unfold okT PyData.strOk
  rw [Array.all_eq_true_iff_forall_mem]
  simp
/-! ### what equals itself -/
mutual
def lay : Nat → D → Bool
  | 0, _ => false
  | _ + 1, .v .non => true
  | _ + 1, .v (.bl _) => true
  | _ + 1, .v (.int _) => true
  | _ + 1, .v (.str s) => okT s
  | n + 1, .tup ds => lays n ds
  | n + 1, .lst _ ds => lays n ds
  | _ + 1, _ => false
def lays : Nat → List D → Bool
  | _, [] => true
  | n, d :: ds => lay n d && lays n ds
end
mutual
theorem lay_ok : ∀ (n : Nat) (d : D), lay n d = true → ∃ p, py d = some p ∧ p.canLay0 = true ∧ p.depth ≤ n
  | 0, _, h => by simp [lay] at h
  | n + 1, .v .non, _ => ⟨.none, rfl, by simp [PyData.canLay0], by simp [PyData.depth]⟩
  | n + 1, .v (.bl b), _ => ⟨.bool b, rfl, by simp [PyData.canLay0], by simp [PyData.depth]⟩
  | n + 1, .v (.int i), _ => ⟨.int i, rfl, by simp [PyData.canLay0], by simp [PyData.depth]⟩
  | n + 1, .v (.str s), h => ⟨.str s, rfl, by simpa [PyData.canLay0, lay] using h, by simp [PyData.depth]⟩
  | n + 1, .tup ds, h => by
    obtain ⟨ps, a, b, c⟩ := lays_ok n ds (by simpa [lay] using h)
    exact ⟨.tuple ps, by simp [py, a], by simpa [PyData.canLay0] using b, by simp only [PyData.depth]; omega⟩
  | n + 1, .lst o ds, h => by
    obtain ⟨ps, a, b, c⟩ := lays_ok n ds (by simpa [lay] using h)
    exact ⟨.list ps, by simp [py, a], by simpa [PyData.canLay0] using b, by simp only [PyData.depth]; omega⟩
  | n + 1, .v (.flt _), h => by simp [lay] at h
  | n + 1, .v (.ref _), h => by simp [lay] at h
  | n + 1, .v (.ty _), h => by simp [lay] at h
  | n + 1, .v (.byt _), h => by simp [lay] at h
  | n + 1, .ktp _, h => by simp [lay] at h
  | n + 1, .dic _ _ _, h => by simp [lay] at h
  | n + 1, .dit _ _ _, h => by simp [lay] at h
  | n + 1, .din _ _ _, h => by simp [lay] at h
  | n + 1, .ins _ _ _ _, h => by simp [lay] at h
  | n + 1, .hol, h => by simp [lay] at h
theorem lays_ok : ∀ (n : Nat) (ds : List D), lays n ds = true → ∃ ps, pys ds = some ps ∧ PyData.canLayAll0 ps = true ∧ PyData.depthAll ps ≤ n
  | n, [], _ => ⟨[], rfl, by simp [PyData.canLayAll0], by simp [PyData.depthAll]⟩
  | n, d :: ds, h => by
    simp only [lays, Bool.and_eq_true] at h
    obtain ⟨p, a, b, c⟩ := lay_ok n d h.1
    obtain ⟨ps, a2, b2, c2⟩ := lays_ok n ds h.2
    exact ⟨p :: ps, by simp [pys, a, a2], by simp [PyData.canLayAll0, b, b2], by simp only [PyData.depthAll]; omega⟩
end
end Z
namespace Z
open PySem L2
/-! ### helpers of the plain laws -/
/-- an equation that simp is to keep as a step of its own -/
theorem nrfl {α : Type} {a : α} : a = a := Eq.trans rfl rfl
theorem log2_small {n : Nat} (h : n < 2 ^ 64) : n.log2 < 64 := by
  by_cases h0 : n = 0
  · subst h0; decide
  · exact (Nat.log2_lt h0).mpr h
theorem dFdiv_eq {i j : Int} (h : 0 < j) (h2 : j < 18446744073709551616) : dFdiv (.v (.int i)) (.v (.int j)) = some (.v (.int (i / j))) := by
  have h3 : j.natAbs.log2 < 64 := log2_small (by omega)
  have h4 : j.natAbs.log2 < 9000 := by omega
  simp [dFdiv, dInt2C, h, h4]
theorem dMod_eq {i j : Int} (h : 0 < j) : dMod (.v (.int i)) (.v (.int j)) = some (.v (.int (i % j))) := by simp [dMod, dInt2C, h]
theorem dMul_r {i j : Int} (h : -18446744073709551616 < j) (h2 : j < 18446744073709551616) : dMul (.v (.int i)) (.v (.int j)) = some (.v (.int (i * j))) := by
  have c : cMul i j = true := decide_eq_true (.inr (.inl ⟨by omega, by omega⟩))
  simp only [dMul, dInt2C]
  rw [if_pos c]
theorem dMul_l {i j : Int} (h : -18446744073709551616 < i) (h2 : i < 18446744073709551616) : dMul (.v (.int i)) (.v (.int j)) = some (.v (.int (i * j))) := by
  have c : cMul i j = true := decide_eq_true (.inl ⟨by omega, by omega⟩)
  simp only [dMul, dInt2C]
  rw [if_pos c]
theorem dPow_eq {i j : Int} (h : 0 ≤ j) (h2 : j ≤ 1000000) (h3 : i.natAbs < 18446744073709551616) : dPow (.v (.int i)) (.v (.int j)) = some (.v (.int (i ^ j.toNat))) := by
  simp only [dPow, dInt2C]
  rw [if_pos (decide_eq_true ⟨h, h2, by omega⟩)]
theorem dShr_eq {i j : Int} (h : 0 ≤ j) : dShr (.v (.int i)) (.v (.int j)) = some (.v (.int (i / 2 ^ j.toNat))) := by simp [dShr, dInt2C, h]
theorem dSub_eq {i j : Int} : dSub (.v (.int i)) (.v (.int j)) = some (.v (.int (i - j))) := nrfl
theorem dAdd_int {i j : Int} : dAdd (.v (.int i)) (.v (.int j)) = some (.v (.int (i + j))) := nrfl
theorem dLt_eq {i j : Int} : dLt (.v (.int i)) (.v (.int j)) = some (.v (.bl (decide (i < j)))) := nrfl
theorem dLe_eq {i j : Int} : dLe (.v (.int i)) (.v (.int j)) = some (.v (.bl (decide (i ≤ j)))) := nrfl
theorem dGt_eq {i j : Int} : dGt (.v (.int i)) (.v (.int j)) = some (.v (.bl (decide (j < i)))) := nrfl
theorem dGe_eq {i j : Int} : dGe (.v (.int i)) (.v (.int j)) = some (.v (.bl (decide (j ≤ i)))) := nrfl
theorem dec_int' {i j : Int} : decide (V.int i = V.int j) = decide (i = j) := by by_cases h : i = j <;> simp [h]
theorem dEq_int {i j : Int} : dEq (.v (.int i)) (.v (.int j)) = some (.v (.bl (decide (i = j)))) := by simp [dEq, dEqB, scal, dec_int']
theorem dNe_int {i j : Int} : dNe (.v (.int i)) (.v (.int j)) = some (.v (.bl (!decide (i = j)))) := by simp [dNe, dEqB, scal, dec_int']
theorem dEq_bl {i j : Bool} : dEq (.v (.bl i)) (.v (.bl j)) = some (.v (.bl (decide (i = j)))) := by cases i <;> cases j <;> rfl
theorem dNe_bl {i j : Bool} : dNe (.v (.bl i)) (.v (.bl j)) = some (.v (.bl (!decide (i = j)))) := by cases i <;> cases j <;> rfl
theorem dEq_str {i j : Str} : dEq (.v (.str i)) (.v (.str j)) = some (.v (.bl (decide (i = j)))) := by by_cases h : i = j <;> simp [dEq, dEqB, scal, h]
theorem dNe_str {i j : Str} : dNe (.v (.str i)) (.v (.str j)) = some (.v (.bl (!decide (i = j)))) := by by_cases h : i = j <;> simp [dNe, dEqB, scal, h]
theorem atI_z {α : Type} {x : α} {xs : List α} : atI (x :: xs) 0 = some x := atI_nat (j := 0) rfl
theorem atI_lit {α : Type} {xs : List α} {n : Nat} : atI xs (no_index (OfNat.ofNat n : Int)) = xs[n]? := by
  show atI xs ((n : Nat) : Int) = xs[n]?
  cases h : xs[n]? with
  | some v => exact atI_nat h
  | none =>
    unfold atI ixN
    have := List.getElem?_eq_none_iff.mp h
    rw [if_pos (by omega), if_neg (by omega)]
    rfl
theorem atI_n {α : Type} {xs : List α} {n : Nat} : atI xs ((n : Nat) : Int) = xs[n]? := by
  cases h : xs[n]? with
  | some v => exact atI_nat h
  | none =>
    unfold atI ixN
    have := List.getElem?_eq_none_iff.mp h
    rw [if_pos (by omega), if_neg (by omega)]
    rfl
theorem ixN_lit {m n : Nat} : ixN m (no_index (OfNat.ofNat n : Int)) = if n < m then some n else none := by
  show ixN m ((n : Nat) : Int) = _
  unfold ixN
  by_cases h : n < m
  · rw [if_pos (by omega), if_pos (by omega), if_pos h]; simp
  · rw [if_pos (by omega), if_neg (by omega), if_neg h]
theorem ixN_n {m n : Nat} : ixN m ((n : Nat) : Int) = if n < m then some n else none := by
  unfold ixN
  by_cases h : n < m
  · rw [if_pos (by omega), if_pos (by omega), if_pos h]; simp
  · rw [if_pos (by omega), if_neg (by omega), if_neg h]
theorem cleans_ints (ns : List Int) : cleans (intsD ns) = true := by
  induction ns with
  | nil => rfl
  | cons n ns ih => simp [intsD, cleans, clean] at ih ⊢; exact ih
mutual
theorem fz_clean : ∀ {d : D}, clean d = true → fz d = d
  | .v _, _ => by simp [fz]
  | .tup ds, h => by simp only [clean] at h; simp only [fz, fzs_clean h]
  | .ktp ds, h => by simp only [clean] at h; simp only [fz, fzs_clean h]
  | .lst o ds, h => by simp only [clean, Bool.and_eq_true, decide_eq_true_eq] at h; cases o <;> simp_all [fz, fzO, fzs_clean h.2]
  | .dic o _ ds, h => by simp only [clean, Bool.and_eq_true, decide_eq_true_eq] at h; cases o <;> simp_all [fz, fzO, fzs_clean h.2]
  | .dit o _ ds, h => by simp only [clean, Bool.and_eq_true, decide_eq_true_eq] at h; cases o <;> simp_all [fz, fzO, fzs_clean h.2]
  | .din o _ ds, h => by simp only [clean, Bool.and_eq_true, decide_eq_true_eq] at h; cases o <;> simp_all [fz, fzO, fzs_clean h.2]
  | .ins o _ _ ds, h => by simp only [clean, Bool.and_eq_true, decide_eq_true_eq] at h; cases o <;> simp_all [fz, fzO, fzs_clean h.2]
  | .hol, h => by simp [clean] at h
theorem fzs_clean : ∀ {ds : List D}, cleans ds = true → fzs ds = ds
  | [], _ => by simp [fzs]
  | d :: ds, h => by simp only [cleans, Bool.and_eq_true] at h; simp only [fzs, fz_clean h.1, fzs_clean h.2]
end
end Z
namespace Z
open PySem L2
theorem ofStr_inj {s t : String} : (Str.ofString s = Str.ofString t) = (s = t) := by
  apply propext
  constructor
  · intro h
    rw [Str.ofString_eq_toList, Str.ofString_eq_toList] at h
    have h1 : (s.toList.map Char.toNat).toArray = (t.toList.map Char.toNat).toArray := by injection h
    have h2 : s.toList.map Char.toNat = t.toList.map Char.toNat := by simpa using congrArg Array.toList h1
    have inj : ∀ (l m : List Char), l.map Char.toNat = m.map Char.toNat → l = m := by
      intro l
      induction l with
      | nil => intro m h; cases m with
        | nil => rfl
        | cons => cases h
      | cons a l ih => intro m h; cases m with
        | nil => cases h
        | cons b m =>
          simp only [List.map_cons, List.cons.injEq] at h
          have : a = b := by
            apply Char.ext
            apply UInt32.toNat_inj.mp
            exact h.1
          rw [this, ih m h.2]
    exact String.toList_inj.mp (inj _ _ h2)
  · intro h; rw [h]
end Z
namespace Z
open PySem L2
/-! ### the same from the inside out, for simp: what follows is a function that is not looked into before its turn -/
abbrev R1 := Option (D × DS)
section
variable {a b : MS} {ma mb m : ME} {t t2 : MT} {mi mr : MA} {ga : MG} {ds : DS} {g : D → D → Option D} {i j : Nat}
def seqK (b : MS) : Option Out → Option Out
  | some (.nx ds) => b ds
  | some (.bk ds) => some (.bk ds)
  | some (.ct ds) => some (.ct ds)
  | some (.rt d ds) => some (.rt d ds)
  | none => none
theorem mSeq_k : mSeq a b ds = seqK b (a ds) := by unfold mSeq; cases h : a ds with
  | none => rfl
  | some o => cases o <;> rfl
def ifK {α : Type} (a b : DS → Option α) : Option (Bool × DS) → Option α
  | some (true, ds) => a ds
  | some (false, ds) => b ds
  | none => none
theorem mIf_k : mIf t a b ds = ifK a b (t ds) := by unfold mIf; cases t ds with
  | none => rfl
  | some p => obtain ⟨c, d⟩ := p; cases c <;> rfl
theorem mIfE_k : mIfE t ma mb ds = ifK ma mb (t ds) := by unfold mIfE; cases t ds with
  | none => rfl
  | some p => obtain ⟨c, d⟩ := p; cases c <;> rfl
def opK3 (ds : DS) : Option D → R1
  | some d => some (d, ds)
  | none => none
def opK2 (g : D → D → Option D) (d : D) : R1 → R1
  | some (e, ds) => opK3 ds (g d e)
  | none => none
def opK (g : D → D → Option D) (mb : ME) : R1 → R1
  | some (d, ds) => opK2 g d (mb ds)
  | none => none
theorem mOp_k : mOp g ma mb ds = opK g mb (ma ds) := by
  unfold mOp; cases ma ds with
  | none => rfl
  | some p => obtain ⟨d, ds1⟩ := p; show _ = opK2 g d (mb ds1); simp only; cases mb ds1 with
    | none => rfl
    | some q => obtain ⟨e, ds2⟩ := q; show _ = opK3 ds2 (g d e); simp only; cases g d e <;> rfl
def lookK3 (e : D) (ds : DS) : Option D → R1
  | some d' => if clean d' && clean e then some (d', ds) else none
  | none => none
def lookK2 (g : D → D → Option D) (e : D) (ds : DS) : Option (Option D) → R1
  | some (some d) => lookK3 e ds (g d e)
  | _ => none
def lookK1 (i : Nat) (g : D → D → Option D) : R1 → R1
  | some (e, ds) => lookK2 g e ds (ds[i]?)
  | none => none
def lookK (i : Nat) (g : D → D → Option D) (mb : ME) (ds : DS) : Option (Option D) → R1
  | some (some _) => lookK1 i g (mb ds)
  | _ => none
theorem mLook_k : mLook i g mb ds = lookK i g mb ds (ds[i]?) := by
  unfold mLook; cases ds[i]? with
  | none => rfl
  | some o => cases o with
    | none => rfl
    | some _ =>
      show _ = lookK1 i g (mb ds)
      simp only
      cases mb ds with
      | none => rfl
      | some p =>
        obtain ⟨e, ds1⟩ := p
        show _ = lookK2 g e ds1 (ds1[i]?)
        simp only
        cases ds1[i]? with
        | none => rfl
        | some o => cases o with
          | none => rfl
          | some d => show _ = lookK3 e ds1 (g d e); simp only; cases g d e <;> rfl
def varK (i : Nat) (ds : DS) : Option (Option D) → R1
  | some (some d) => if clean d then some (d, ds) else if clean (fz d) then some (fz d, ds.set i (some (fz d))) else none
  | _ => none
theorem mVar_k : mVar i ds = varK i ds (ds[i]?) := by
  unfold mVar; cases ds[i]? with
  | none => rfl
  | some o => cases o <;> rfl
def moveK (i : Nat) (ds : DS) : Option (Option D) → R1
  | some (some d) => some (d, ds.set i none)
  | _ => none
theorem mMove_k : mMove i ds = moveK i ds (ds[i]?) := by
  unfold mMove; cases ds[i]? with
  | none => rfl
  | some o => cases o <;> rfl
def tstK : R1 → Option (Bool × DS)
  | some (.v (.bl b), ds) => some (b, ds)
  | _ => none
theorem mTst_k : mTst m ds = tstK (m ds) := nrfl
def andK (b : MT) : Option (Bool × DS) → Option (Bool × DS)
  | some (true, ds) => b ds
  | some (false, ds) => some (false, ds)
  | none => none
theorem mAnd_k : mAnd t t2 ds = andK t2 (t ds) := by unfold mAnd; cases t ds with
  | none => rfl
  | some p => obtain ⟨c, d⟩ := p; cases c <;> rfl
def orK (b : MT) : Option (Bool × DS) → Option (Bool × DS)
  | some (true, ds) => some (true, ds)
  | some (false, ds) => b ds
  | none => none
theorem mOr_k : mOr t t2 ds = orK t2 (t ds) := by unfold mOr; cases t ds with
  | none => rfl
  | some p => obtain ⟨c, d⟩ := p; cases c <;> rfl
def notK : Option (Bool × DS) → Option (Bool × DS)
  | some (b, ds) => some (!b, ds)
  | none => none
theorem mNot_k : mNot t ds = notK (t ds) := by unfold mNot; cases t ds with
  | none => rfl
  | some p => rfl
def andVK (b : ME) : R1 → R1
  | some (.v (.bl true), ds) => b ds
  | some (.v (.bl false), ds) => some (.v (.bl false), ds)
  | _ => none
theorem mAndV_k : mAndV ma mb ds = andVK mb (ma ds) := nrfl
def orVK (b : ME) : R1 → R1
  | some (.v (.bl true), ds) => some (.v (.bl true), ds)
  | some (.v (.bl false), ds) => b ds
  | _ => none
theorem mOrV_k : mOrV ma mb ds = orVK mb (ma ds) := nrfl
def notVK : R1 → R1
  | some (.v (.bl b), ds) => some (.v (.bl (!b)), ds)
  | _ => none
theorem mNotV_k : mNotV m ds = notVK (m ds) := nrfl
def negK : R1 → R1
  | some (.v (.int i), ds) => some (.v (.int (-i)), ds)
  | _ => none
theorem mNeg_k : mNeg m ds = negK (m ds) := nrfl
def setK (i : Nat) (d : D) (ds : DS) : Option Out := if i < ds.length then some (.nx (ds.set i (some d))) else none
def asgK (i : Nat) : R1 → Option Out
  | some (d, ds) => setK i d ds
  | none => none
theorem mAsg_k : mAsg i m ds = asgK i (m ds) := by
  unfold mAsg; cases m ds with
  | none => rfl
  | some p =>
    obtain ⟨d, ds1⟩ := p
    show (setSlot i d ds1).map .nx = setK i d ds1
    unfold setSlot setK
    split <;> rfl
def retK : R1 → Option Out
  | some (d, ds) => some (.rt d ds)
  | none => none
theorem mRet_k : mRet m ds = retK (m ds) := nrfl
def dropK : R1 → Option Out
  | some (_, ds) => some (.nx ds)
  | none => none
theorem mDrop_k : mDrop m ds = dropK (m ds) := nrfl
def consK2 (d : D) : Option (List D × DS) → Option (List D × DS)
  | some (es, ds) => some (d :: es, ds)
  | none => none
def consK (r : MA) : R1 → Option (List D × DS)
  | some (d, ds) => consK2 d (r ds)
  | none => none
theorem mCons_k : mCons m mr ds = consK mr (m ds) := by
  unfold mCons; cases m ds with
  | none => rfl
  | some p => obtain ⟨d, ds1⟩ := p; show _ = consK2 d (mr ds1); simp only; cases mr ds1 <;> rfl
def fnK (f : List D → Option D) : Option (List D × DS) → R1
  | some (es, ds) => opK3 ds (f es)
  | none => none
theorem mFn_k {f : List D → Option D} : mFn f mr ds = fnK f (mr ds) := by
  unfold mFn; cases mr ds with
  | none => rfl
  | some p => obtain ⟨d, ds1⟩ := p; show _ = opK3 ds1 (f d); simp only; cases f d <;> rfl
def setIxK3 (i : Nat) (d : D) (ds : DS) (es : List D) : Option Nat → Option Out
  | some j => some (.nx (ds.set i (some (.lst .own (es.set j d)))))
  | none => none
def setIxK2 (i : Nat) (d : D) (k : Int) (ds : DS) : Option (Option D) → Option Out
  | some (some (.lst .own es)) => setIxK3 i d ds es (ixN es.length k)
  | _ => none
def setIxK1 (i : Nat) (d : D) : R1 → Option Out
  | some (.v (.int k), ds) => setIxK2 i d k ds (ds[i]?)
  | _ => none
def setIxK0 (i : Nat) (mi : ME) (d : D) (ds : DS) : Option (Option D) → Option Out
  | some (some _) => setIxK1 i d (mi ds)
  | _ => none
def setIxK (i : Nat) (mi : ME) : R1 → Option Out
  | some (d, ds) => setIxK0 i mi d ds (ds[i]?)
  | none => none
theorem mSetIx_k : mSetIx i ma mb ds = setIxK i ma (mb ds) := by
  unfold mSetIx
  cases mb ds with
  | none => rfl
  | some p =>
    obtain ⟨d, ds1⟩ := p
    show _ = setIxK0 i ma d ds1 (ds1[i]?)
    simp only
    cases ds1[i]? with
    | none => rfl
    | some o =>
      cases o with
      | none => rfl
      | some _ =>
        show _ = setIxK1 i d (ma ds1)
        simp only
        cases ma ds1 with
        | none => rfl
        | some q =>
          obtain ⟨e, ds2⟩ := q
          cases e with
          | v x =>
            cases x with
            | int k =>
              show _ = setIxK2 i d k ds2 (ds2[i]?)
              simp only
              cases ds2[i]? with
              | none => rfl
              | some o =>
                cases o with
                | none => rfl
                | some u =>
                  cases u with
                  | lst oo es =>
                    cases oo with
                    | own =>
                      show _ = setIxK3 i d ds2 es (ixN es.length k)
                      simp only
                      cases ixN es.length k <;> rfl
                    | _ => rfl
                  | _ => rfl
            | _ => rfl
          | _ => rfl
def augK2 (i : Nat) (g : Int → Int → Int) (a : Int) : R1 → Option Out
  | some (.v (.int b), ds) => setK i (.v (.int (g a b))) ds
  | _ => none
def augK (i : Nat) (g : Int → Int → Int) (m : ME) (ds : DS) : Option (Option D) → Option Out
  | some (some (.v (.int a))) => augK2 i g a (m ds)
  | _ => none
theorem setSlot_k {d : D} : (setSlot i d ds).map Out.nx = setK i d ds := by unfold setSlot setK; split <;> rfl
theorem mAug_k {g : Int → Int → Int} : mAug i g m ds = augK i g m ds (ds[i]?) := by
  unfold mAug
  cases ds[i]? with
  | none => rfl
  | some o =>
    cases o with
    | none => rfl
    | some u =>
      cases u with
      | v x =>
        cases x with
        | int a =>
          show _ = augK2 i g a (m ds)
          simp only
          cases m ds with
          | none => rfl
          | some p =>
            obtain ⟨e, ds1⟩ := p
            cases e with
            | v x => cases x with
              | int b => exact setSlot_k
              | _ => rfl
            | _ => rfl
        | _ => rfl
      | _ => rfl
def appendK1 (i : Nat) (d : D) (ds : DS) : Option (Option D) → Option Out
  | some (some (.lst .own es)) => if es.length < 10000000 then some (.nx (ds.set i (some (.lst .own (es ++ [d]))))) else none
  | _ => none
def appendK0 (i : Nat) : R1 → Option Out
  | some (d, ds) => appendK1 i d ds (ds[i]?)
  | none => none
def appendK (i : Nat) (m : ME) (ds : DS) : Option (Option D) → Option Out
  | some (some (.lst _ _)) => appendK0 i (m ds)
  | _ => none
theorem mAppend_k : mAppend i m ds = appendK i m ds (ds[i]?) := by
  unfold mAppend
  cases ds[i]? with
  | none => rfl
  | some o =>
    cases o with
    | none => rfl
    | some u =>
      cases u with
      | lst oo es =>
        show _ = appendK0 i (m ds)
        simp only
        cases m ds with
        | none => rfl
        | some p =>
          obtain ⟨d, ds1⟩ := p
          show _ = appendK1 i d ds1 (ds1[i]?)
          simp only
          cases ds1[i]? with
          | none => rfl
          | some o => cases o with
            | none => rfl
            | some u => cases u with
              | lst oo es => cases oo <;> rfl
              | _ => rfl
      | _ => rfl
def asgTK2 : Option DS → Option Out
  | some ds => some (.nx ds)
  | none => none
def asgTK (a : MG) : R1 → Option Out
  | some (d, ds) => if clean d then asgTK2 (a d ds) else none
  | none => none
theorem mAsgT_k : mAsgT ga m ds = asgTK ga (m ds) := by
  unfold mAsgT; cases m ds with
  | none => rfl
  | some p => obtain ⟨d, ds1⟩ := p; show _ = (if clean d then asgTK2 (ga d ds1) else none); simp only; split
              · cases ga d ds1 <;> rfl
              · rfl
def itK2 (ds : DS) : Option (List D) → Option (List D × DS)
  | some es => some (es, ds)
  | none => none
def itK (f : D → Option (List D)) : R1 → Option (List D × DS)
  | some (d, ds) => itK2 ds (f d)
  | none => none
theorem mIt_k {f : D → Option (List D)} : mIt f m ds = itK f (m ds) := by
  unfold mIt; cases m ds with
  | none => rfl
  | some p => obtain ⟨d, ds1⟩ := p; show _ = itK2 ds1 (f d); simp only; cases f d <;> rfl
def rngK : Option (List D × DS) → Option (List D × DS)
  | some (es, ds) => itK2 ds (mRng es)
  | none => none
theorem mRngA_k : mRngA mr ds = rngK (mr ds) := by
  unfold mRngA; cases mr ds with
  | none => rfl
  | some p => obtain ⟨d, ds1⟩ := p; show _ = itK2 ds1 (mRng d); simp only; cases mRng d <;> rfl
def forK (a : MG) (b : MS) : Option (List D × DS) → Option Out
  | some (items, ds) => forL a b items ds
  | none => none
theorem mFor_k : mFor mi ga a ds = forK ga a (mi ds) := by unfold mFor; cases mi ds with
  | none => rfl
  | some p => rfl
def turnK (a : MG) (b : MS) (r : List D) : Option Out → Option Out
  | some (.nx ds) => forL a b r ds
  | some (.ct ds) => forL a b r ds
  | some (.bk ds) => some (.nx ds)
  | some (.rt d ds) => some (.rt d ds)
  | none => none
def turnK0 (a : MG) (b : MS) (r : List D) : Option DS → Option Out
  | some ds => turnK a b r (b ds)
  | none => none
def lcK1 : Option (List D × DS) → R1
  | some (es, ds) => some (.lst .own es, ds)
  | none => none
def lcK (a : MG) (t : MT) (m : ME) (ws : List Nat) : Option (List D × DS) → R1
  | some (items, ds) => if items.length ≤ 1000000 then lcK1 (lcL a t m ws items (wipeD ds ws)) else none
  | none => none
theorem mLc_k {ws : List Nat} : mLc mi ga t m ws ds = lcK ga t m ws (mi ds) := by
  unfold mLc; cases mi ds with
  | none => rfl
  | some p => obtain ⟨it, ds1⟩ := p; show _ = (if it.length ≤ 1000000 then lcK1 (lcL ga t m ws it (wipeD ds1 ws)) else none); simp only; split
              · cases lcL ga t m ws it (wipeD ds1 ws) <;> rfl
              · rfl
def lcT2 (a : MG) (t : MT) (m : ME) (ws : List Nat) (r : List D) : R1 → Option (List D × DS)
  | some (d, ds) => consK2 d (lcL a t m ws r (wipeD ds ws))
  | none => none
def lcT1 (a : MG) (t : MT) (m : ME) (ws : List Nat) (r : List D) : Option (Bool × DS) → Option (List D × DS)
  | some (true, ds) => lcT2 a t m ws r (m ds)
  | some (false, ds) => lcL a t m ws r (wipeD ds ws)
  | none => none
def lcT0 (a : MG) (t : MT) (m : ME) (ws : List Nat) (r : List D) : Option DS → Option (List D × DS)
  | some ds => lcT1 a t m ws r (t ds)
  | none => none
theorem lcL_cons {ws : List Nat} {x : D} {r : List D} : lcL ga t m ws (x :: r) ds = lcT0 ga t m ws r (ga x ds) := by
  rw [lcL]; cases ga x ds with
  | none => rfl
  | some ds1 =>
    show _ = lcT1 ga t m ws r (t ds1)
    simp only
    cases t ds1 with
    | none => rfl
    | some p =>
      obtain ⟨c, ds2⟩ := p
      cases c with
      | false => rfl
      | true =>
        show _ = lcT2 ga t m ws r (m ds2)
        simp only
        cases m ds2 with
        | none => rfl
        | some q =>
          obtain ⟨d, ds3⟩ := q
          show _ = consK2 d (lcL ga t m ws r (wipeD ds3 ws))
          simp only
          cases lcL ga t m ws r (wipeD ds3 ws) <;> rfl
/-! calls -/
def callK2 (rs : List (Nat ⊕ D)) (as : List D) (ds : DS) : R1 → R1
  | some (d, qs) => some (d, put rs as qs ds)
  | none => none
def callK1 (F : List D → Option (D × DS)) (rs : List (Nat ⊕ D)) : Option (List D × DS) → R1
  | some (as, ds) => callK2 rs as ds (F as)
  | none => none
def callK (F : List D → Option (D × DS)) : Option (List (Nat ⊕ D) × DS) → R1
  | some (rs, ds) => callK1 F rs (take rs ds)
  | none => none
theorem mCall_k {F : List D → Option (D × DS)} {args : List Arg} : mCall F args ds = callK F (mArgs args ds) := by
  unfold mCall; cases mArgs args ds with
  | none => rfl
  | some p =>
    obtain ⟨rs, ds1⟩ := p
    show _ = callK1 F rs (take rs ds1)
    simp only
    cases take rs ds1 with
    | none => rfl
    | some q => obtain ⟨as, ds2⟩ := q; show _ = callK2 rs as ds2 (F as); simp only; cases F as <;> rfl
def argK2 (x : Nat ⊕ D) : Option (List (Nat ⊕ D) × DS) → Option (List (Nat ⊕ D) × DS)
  | some (rs, ds) => some (x :: rs, ds)
  | none => none
def argK (r : List Arg) : R1 → Option (List (Nat ⊕ D) × DS)
  | some (d, ds) => argK2 (.inr d) (mArgs r ds)
  | none => none
def argB (i : Nat) (r : List Arg) (ds : DS) : Option (Option D) → Option (List (Nat ⊕ D) × DS)
  | some (some _) => argK2 (.inl i) (mArgs r ds)
  | _ => none
theorem mArgs_nil : mArgs [] ds = some ([], ds) := nrfl
theorem mArgs_ex {r : List Arg} : mArgs (.ex m :: r) ds = argK r (m ds) := by
  rw [mArgs]; cases m ds with
  | none => rfl
  | some p => obtain ⟨d, ds1⟩ := p; show _ = argK2 _ (mArgs r ds1); simp only; cases mArgs r ds1 <;> rfl
theorem mArgs_bo {r : List Arg} : mArgs (.bo i :: r) ds = argB i r ds (ds[i]?) := by
  rw [mArgs]; cases ds[i]? with
  | none => rfl
  | some o => cases o with
    | none => rfl
    | some d => show _ = argK2 _ (mArgs r ds); simp only; cases mArgs r ds <;> rfl
def takeK (d : D) : Option (List D × DS) → Option (List D × DS)
  | some (es, ds) => some (d :: es, ds)
  | none => none
def takeB (i : Nat) (r : List (Nat ⊕ D)) (ds : DS) : Option (Option D) → Option (List D × DS)
  | some (some d) => takeK d (take r (if clean d then ds else ds.set i none))
  | _ => none
theorem take_nil : take [] ds = some ([], ds) := nrfl
theorem take_ex {d : D} {r : List (Nat ⊕ D)} : take (.inr d :: r) ds = takeK d (take r ds) := by rw [take]; cases take r ds <;> rfl
theorem take_bo {r : List (Nat ⊕ D)} : take (.inl i :: r) ds = takeB i r ds (ds[i]?) := by
  rw [take]; cases ds[i]? with
  | none => rfl
  | some o => cases o with
    | none => rfl
    | some d => show _ = takeK d (take r _); simp only; cases take r _ <;> rfl
theorem put_nil {as : List D} {os : DS} : put [] as os ds = ds := by cases as <;> cases os <;> rfl
theorem put_bo {r : List (Nat ⊕ D)} {d : D} {as : List D} {o : Option D} {os : DS} : put (.inl i :: r) (d :: as) (o :: os) ds = put r as os (if clean d then ds else ds.set i o) := nrfl
theorem put_ex {r : List (Nat ⊕ D)} {e d : D} {as : List D} {o : Option D} {os : DS} : put (.inr e :: r) (d :: as) (o :: os) ds = put r as os ds := nrfl
def fnMK (fx : Nat → Bool) (as : List D) : Option Out → R1
  | some (.rt d ds) => some (d, outs fx 0 as ds)
  | some (.nx ds) => some (.v .non, outs fx 0 as ds)
  | _ => none
theorem fnM_k {np n : Nat} {fx : Nat → Bool} {as : List D} : fnM np n fx a as = if as.length = np then fnMK fx as (a (as.map some ++ List.replicate (n - np) none)) else none := by
  unfold fnM; split
  · cases a (as.map some ++ List.replicate (n - np) none) with
    | none => rfl
    | some o => cases o <;> rfl
  · rfl
/-! ### of the later rules -/
def isNK (b : Bool) : R1 → R1
  | some (d, ds) => some (.v (.bl (if b then isN d else !isN d)), ds)
  | none => none
theorem mIsN_k {c : Bool} : mIsN c m ds = isNK c (m ds) := nrfl
def isNVK (b : Bool) (ds : DS) : Option (Option D) → R1
  | some (some d) => some (.v (.bl (if b then isN d else !isN d)), ds)
  | _ => none
theorem mIsNV_k {c : Bool} : mIsNV c i ds = isNVK c ds (ds[i]?) := nrfl
def chnK3 (p' : Int → Int → Bool) (j : Int) : R1 → R1
  | some (.v (.int k), ds) => some (.v (.bl (p' j k)), ds)
  | _ => none
def chnK2 (p p' : Int → Int → Bool) (mc : ME) (i : Int) : R1 → R1
  | some (.v (.int j), ds) => if p i j = true then chnK3 p' j (mc ds) else some (.v (.bl false), ds)
  | _ => none
def chnK (p p' : Int → Int → Bool) (mb mc : ME) : R1 → R1
  | some (.v (.int i), ds) => chnK2 p p' mc i (mb ds)
  | _ => none
theorem mChn_k {p p' : Int → Int → Bool} {mc : ME} : mChn p p' ma mb mc ds = chnK p p' mb mc (ma ds) := by
  unfold mChn
  cases ma ds with
  | none => rfl
  | some q =>
    obtain ⟨d, ds1⟩ := q
    cases d with
    | v x =>
      cases x with
      | int i =>
        show _ = chnK2 p p' mc i (mb ds1)
        simp only
        cases mb ds1 with
        | none => rfl
        | some q =>
          obtain ⟨d, ds2⟩ := q
          cases d with
          | v x =>
            cases x with
            | int j => rfl
            | _ => rfl
          | _ => rfl
      | _ => rfl
    | _ => rfl
def revK : R1 → R1
  | some (.lst _ es, ds) => if cleans es then some (.lst .own es.reverse, ds) else none
  | _ => none
theorem mRev_k : mRev m ds = revK (m ds) := nrfl
def extendK1 (i : Nat) (zs : List D) (ds : DS) : Option (Option D) → Option Out
  | some (some (.lst .own es)) => if es.length + zs.length < 10000000 then some (.nx (ds.set i (some (.lst .own (es ++ zs))))) else none
  | _ => none
def extendK0 (i : Nat) : R1 → Option Out
  | some (.lst .own zs, ds) => extendK1 i zs ds (ds[i]?)
  | some (.lst .fro zs, ds) => extendK1 i zs ds (ds[i]?)
  | _ => none
def extendK (i : Nat) (m : ME) (ds : DS) : Option (Option D) → Option Out
  | some (some (.lst _ _)) => extendK0 i (m ds)
  | _ => none
theorem mExtend_k : mExtend i m ds = extendK i m ds (ds[i]?) := by
  unfold mExtend
  cases ds[i]? with
  | none => rfl
  | some o => cases o with
    | none => rfl
    | some u => cases u with
      | lst oo es =>
        show _ = extendK0 i (m ds)
        simp only
        cases m ds with
        | none => rfl
        | some q =>
          obtain ⟨d, ds1⟩ := q
          cases d with
          | lst o2 zs =>
            cases o2 with
            | own =>
              show _ = extendK1 i zs ds1 (ds1[i]?)
              simp only
              cases ds1[i]? with
              | none => rfl
              | some o => cases o with
                | none => rfl
                | some u => cases u with
                  | lst oo es => cases oo <;> simp [extendK1]
                  | _ => rfl
            | fro =>
              show _ = extendK1 i zs ds1 (ds1[i]?)
              simp only
              cases ds1[i]? with
              | none => rfl
              | some o => cases o with
                | none => rfl
                | some u => cases u with
                  | lst oo es => cases oo <;> simp [extendK1]
                  | _ => rfl
            | ext =>
              simp only [extendK0]
              cases ds1[i]? with
              | none => rfl
              | some o => cases o with
                | none => rfl
                | some u => cases u with
                  | lst oo es => cases oo <;> simp
                  | _ => rfl
          | _ => rfl
      | _ => rfl
def popK2 (i : Nat) (ds : DS) (es : List D) : Option D → R1
  | some d => some (d, ds.set i (some (.lst .own es.dropLast)))
  | none => none
def popK (i : Nat) (ds : DS) : Option (Option D) → R1
  | some (some (.lst .own es)) => popK2 i ds es es[es.length - 1]?
  | _ => none
theorem mPop_k : mPop i ds = popK i ds (ds[i]?) := by
  unfold mPop
  cases ds[i]? with
  | none => rfl
  | some o => cases o with
    | none => rfl
    | some u => cases u with
      | lst oo es => cases oo with
        | own => show _ = popK2 i ds es es[es.length - 1]?; simp only; cases es[es.length - 1]? <;> rfl
        | _ => rfl
      | _ => rfl
def clearK (i : Nat) (ds : DS) : Option (Option D) → Option Out
  | some (some (.lst .own _)) => some (.nx (ds.set i (some (.lst .own []))))
  | _ => none
theorem mClear_k : mClear i ds = clearK i ds (ds[i]?) := nrfl
def lookAK (i : Nat) (mb : ME) (ds : DS) : Bool → R1
  | true => mLook i dKx mb ds
  | false => mLook i dIx mb ds
theorem mLookA_k : mLookA i mb ds = lookAK i mb ds (isDic ds[i]?) := nrfl
def lookRK2 (g : D → D → Option D) (e : D) (ds : DS) : Option (Option D) → R1
  | some (some d) => lookK3 e ds (g d e)
  | _ => none
def lookRK (i : Nat) (g : D → D → Option D) : R1 → R1
  | some (e, ds) => lookRK2 g e ds (ds[i]?)
  | none => none
theorem mLookR_k : mLookR i g ma ds = lookRK i g (ma ds) := by
  unfold mLookR
  cases ma ds with
  | none => rfl
  | some q =>
    obtain ⟨e, ds1⟩ := q
    show _ = lookRK2 g e ds1 (ds1[i]?)
    simp only
    cases ds1[i]? with
    | none => rfl
    | some o => cases o with
      | none => rfl
      | some d => show _ = lookK3 e ds1 (g d e); simp only; cases g d e <;> rfl
def inVK (b : Bool) (i : Nat) (ma : ME) (ds : DS) : Bool → R1
  | true => mLookR i (dKin b) ma ds
  | false => mLookR i (dInF b) ma ds
theorem mInV_k {c : Bool} : mInV c i ma ds = inVK c i ma ds (isDic ds[i]?) := nrfl
def pairsK4 (k : Key) (d : D) : Option (List (Key × D) × DS) → Option (List (Key × D) × DS)
  | some (l, ds) => some ((k, d) :: l, ds)
  | none => none
def pairsK3 (r : List (ME × ME)) (k : Key) : R1 → Option (List (Key × D) × DS)
  | some (d, ds) => pairsK4 k d (mPairs r ds)
  | none => none
def pairsK2 (mv : ME) (r : List (ME × ME)) (ds : DS) : Option Key → Option (List (Key × D) × DS)
  | some k => pairsK3 r k (mv ds)
  | none => none
def pairsK (mv : ME) (r : List (ME × ME)) : R1 → Option (List (Key × D) × DS)
  | some (e, ds) => pairsK2 mv r ds (dKey e)
  | none => none
theorem mPairs_nil : mPairs [] ds = some ([], ds) := nrfl
theorem mPairs_cons {r : List (ME × ME)} : mPairs ((ma, mb) :: r) ds = pairsK mb r (ma ds) := by
  rw [mPairs]
  cases ma ds with
  | none => rfl
  | some q =>
    obtain ⟨e, ds1⟩ := q
    show _ = pairsK2 mb r ds1 (dKey e)
    simp only
    cases dKey e with
    | none => rfl
    | some k =>
      show _ = pairsK3 r k (mb ds1)
      simp only
      cases mb ds1 with
      | none => rfl
      | some q => obtain ⟨d, ds2⟩ := q; show _ = pairsK4 k d (mPairs r ds2); simp only; cases mPairs r ds2 <;> rfl
def dispK2 (ds : DS) : Option (List Key × List D) → R1
  | some (ks, es) => some (.dic .own ks es, ds)
  | none => none
def dispK : Option (List (Key × D) × DS) → R1
  | some (l, ds) => if l.length ≤ 15 then dispK2 ds (mergeD [] [] l) else none
  | none => none
theorem mDisp_k {l : List (ME × ME)} : mDisp l ds = dispK (mPairs l ds) := by
  unfold mDisp
  cases mPairs l ds with
  | none => rfl
  | some q =>
    obtain ⟨l1, ds1⟩ := q
    show _ = (if l1.length ≤ 15 then dispK2 ds1 (mergeD [] [] l1) else none)
    simp only
    split
    · cases mergeD [] [] l1 <;> rfl
    · rfl
theorem dMin2_1 {i j : Int} : dMin2 [.v (.int i), .v (.int j)] = some (.v (.int (if j < i then j else i))) := nrfl
theorem dMax2_1 {i j : Int} : dMax2 [.v (.int i), .v (.int j)] = some (.v (.int (if j > i then j else i))) := nrfl
theorem dAbs_1 {i : Int} : dAbs [.v (.int i)] = some (.v (.int (if i < 0 then -i else i))) := nrfl
theorem dIntF_1 {i : Int} : dIntF [.v (.int i)] = some (.v (.int i)) := nrfl
theorem dIntF_2 {c : Bool} : dIntF [.v (.bl c)] = some (.v (.int (if c then 1 else 0))) := nrfl
theorem isDic_d {o : O} {ks : List Key} {es : List D} : isDic (some (some (.dic o ks es))) = true := nrfl
theorem isDic_v {x : V} : isDic (some (some (.v x))) = false := nrfl
theorem isDic_t {es : List D} : isDic (some (some (.tup es))) = false := nrfl
theorem isDic_k {es : List D} : isDic (some (some (.ktp es))) = false := nrfl
theorem isDic_l {o : O} {es : List D} : isDic (some (some (.lst o es))) = false := nrfl
theorem dKey_i {i : Int} : dKey (.v (.int i)) = some (.inl i) := nrfl
theorem dKey_s {s : Str} : dKey (.v (.str s)) = some (.inr s) := nrfl
theorem dKx_i {o : O} {ks : List Key} {es : List D} {i : Int} : dKx (.dic o ks es) (.v (.int i)) = getD_ ks es (.inl i) := nrfl
theorem dKx_s {o : O} {ks : List Key} {es : List D} {s : Str} : dKx (.dic o ks es) (.v (.str s)) = getD_ ks es (.inr s) := nrfl
theorem dKin_i {o : O} {ks : List Key} {es : List D} {i : Int} {c : Bool} : dKin c (.dic o ks es) (.v (.int i)) = some (.v (.bl (if c then hasK ks (.inl i) else !hasK ks (.inl i)))) := nrfl
theorem dKin_s {o : O} {ks : List Key} {es : List D} {s : Str} {c : Bool} : dKin c (.dic o ks es) (.v (.str s)) = some (.v (.bl (if c then hasK ks (.inr s) else !hasK ks (.inr s)))) := nrfl
theorem getD_nil {k : Key} : getD_ ([] : List Key) [] k = none := nrfl
theorem getD_cons {k0 k : Key} {ks : List Key} {d : D} {es : List D} : getD_ (k0 :: ks) (d :: es) k = if k0 = k then some d else getD_ ks es k := nrfl
theorem hasK_nil {k : Key} : hasK ([] : List Key) k = false := nrfl
theorem hasK_cons {κ : Type} [DecidableEq κ] {k0 k : κ} {ks : List κ} : hasK (k0 :: ks) k = (decide (k0 = k) || hasK ks k) := by
  unfold hasK; by_cases h : k0 = k
  · simp [h]
  · have : ¬ k = k0 := fun z => h z.symm
    simp [h, this]
theorem putD_eq {κ : Type} [DecidableEq κ] {ks : List κ} {es : List D} {k : κ} {d : D} : putD ks es k d = if hasK ks k = true then (if clean d then some (ks, repD ks es k d) else none) else some (ks ++ [k], es ++ [d]) := by
  by_cases h : k ∈ ks
  · have e : hasK ks k = true := decide_eq_true h
    rw [if_pos e]; unfold putD; rw [if_pos h]
  · have e : ¬ hasK ks k = true := fun z => h (of_decide_eq_true z)
    rw [if_neg e]; unfold putD; rw [if_neg h]
def mergeK_ (r : List (Key × D)) : Option (List Key × List D) → Option (List Key × List D)
  | some (ks, es) => mergeD ks es r
  | none => none
theorem mergeD_nil {ks : List Key} {es : List D} : mergeD ks es [] = some (ks, es) := nrfl
theorem mergeD_cons {ks : List Key} {es : List D} {k : Key} {d : D} {r : List (Key × D)} : mergeD ks es ((k, d) :: r) = mergeK_ r (putD ks es k d) := by rw [mergeD]; cases putD ks es k d <;> rfl
def parK2 (j : Nat) (e : D) : Option DS → Option Out
  | some ds => setK j e ds
  | none => none
def parK (i j : Nat) : Option (List D × DS) → Option Out
  | some ([d, e], ds) => parK2 j e (setSlot i d ds)
  | _ => none
theorem mPar_k : mPar i j mr ds = parK i j (mr ds) := by
  unfold mPar
  cases mr ds with
  | none => rfl
  | some q =>
    obtain ⟨l, ds1⟩ := q
    match l with
    | [] => rfl
    | [_] => rfl
    | [d, e] =>
      show _ = parK2 j e (setSlot i d ds1)
      simp only
      cases setSlot i d ds1 with
      | none => rfl
      | some ds2 => show _ = setK j e ds2; unfold setSlot setK; by_cases h : j < ds2.length <;> simp [h]
    | _ :: _ :: _ :: _ => rfl
def enumK : Option (List D × DS) → Option (List D × DS)
  | some ([.lst _ es], ds) => if cleans (fzs es) then some (enumD 0 (fzs es), ds) else none
  | _ => none
theorem mEnum_k : mEnum mr ds = enumK (mr ds) := nrfl
def zipK : Option (List D × DS) → Option (List D × DS)
  | some ([.lst _ es, .lst _ es2], ds) => if cleans (fzs es) && cleans (fzs es2) then some (zipD (fzs es) (fzs es2), ds) else none
  | _ => none
theorem mZip_k : mZip mr ds = zipK (mr ds) := nrfl
def lookLK (i : Nat) (g : D → D → Option D) (mb : ME) (ds : DS) : Option (Option D) → R1
  | some (some (.lst _ _)) => mLook i g mb ds
  | _ => none
theorem mLookL_k : mLookL i g mb ds = lookLK i g mb ds (ds[i]?) := nrfl
def mtK2 (g : Str → List D → Option D) (a : Str) : Option (List D × DS) → R1
  | some (es, ds) => opK3 ds (g a es)
  | none => none
def mtK (g : Str → List D → Option D) (r : MA) : R1 → R1
  | some (.v (.str a), ds) => mtK2 g a (r ds)
  | _ => none
theorem mMt_k {g : Str → List D → Option D} : mMt g m mr ds = mtK g mr (m ds) := by
  unfold mMt
  cases m ds with
  | none => rfl
  | some q =>
    obtain ⟨d, ds1⟩ := q
    cases d with
    | v x =>
      cases x with
      | str a =>
        show _ = mtK2 g a (mr ds1)
        simp only
        cases mr ds1 with
        | none => rfl
        | some q => obtain ⟨es, ds2⟩ := q; show _ = opK3 ds2 (g a es); simp only; cases g a es <;> rfl
      | _ => rfl
    | _ => rfl
theorem itemsS_1 {s : Str} : itemsS (.v (.str s)) = some (s.cps.toList.map fun c => .v (.str ⟨#[c]⟩)) := nrfl
theorem dJoin_1 {a : Str} {o : O} {es : List D} {ys : List Str} (h : strsD es = some ys) (h2 : (ys.map (·.length)).sum + ys.length * a.length ≤ 16777216) : dJoin a [.lst o es] = some (.v (.str (Txt.join a ys))) := by unfold dJoin; simp only [h, if_pos h2]
theorem dStrF_1 {i : Int} (h : i.natAbs.log2 < 1920) : dStrF [.v (.int i)] = some (.v (.str (toString i))) := by unfold dStrF; simp only [if_pos h]
theorem dAdd_str {a b : Str} (h : a.length + b.length ≤ 16777216) : dAdd (.v (.str a)) (.v (.str b)) = some (.v (.str (a ++ b))) := by unfold dAdd; simp only [if_pos h]
def orFzK (i : Nat) (m : ME) (ds : DS) : R1 → R1
  | some r => some r
  | none => m (fzAt i ds)
theorem orFz_k : orFz i m ds = orFzK i m ds (m ds) := by unfold orFz; cases m ds <;> rfl
def fzAtK (i : Nat) (ds : DS) : Option (Option D) → DS
  | some (some d) => if clean (fz d) then ds.set i (some (fz d)) else ds
  | _ => ds
theorem fzAt_k : fzAt i ds = fzAtK i ds (ds[i]?) := by unfold fzAt; cases ds[i]? with
  | none => rfl
  | some o => cases o <;> rfl
def frzK : R1 → R1
  | some (d, ds) => if clean (fz d) then some (fz d, ds) else none
  | none => none
theorem mFrz_k : mFrz m ds = frzK (m ds) := nrfl
def putKK5 (i : Nat) (ks : List Key) (ds : DS) : Option (List Key × List D) → Option Out
  | some (ks', es') => if ks.length < 10000000 then some (.nx (ds.set i (some (.dic .own ks' es')))) else none
  | none => none
def putKK4 (i : Nat) (d : D) (k : Key) (ds : DS) : Option (Option D) → Option Out
  | some (some (.dic .own ks es)) => putKK5 i ks ds (putD ks es k d)
  | _ => none
def putKK3 (i : Nat) (d : D) (ds : DS) : Option Key → Option Out
  | some k => putKK4 i d k ds (ds[i]?)
  | none => none
def putKK2 (i : Nat) (d : D) : R1 → Option Out
  | some (e, ds) => putKK3 i d ds (dKey e)
  | none => none
def putKK1 (i : Nat) (mi : ME) (d : D) (ds : DS) : Option (Option D) → Option Out
  | some (some _) => putKK2 i d (mi ds)
  | _ => none
def putKK (i : Nat) (mi : ME) : R1 → Option Out
  | some (d, ds) => putKK1 i mi d ds (ds[i]?)
  | none => none
theorem mPutK_k : mPutK i ma mb ds = putKK i ma (mb ds) := by
  unfold mPutK
  cases mb ds with
  | none => rfl
  | some q =>
    obtain ⟨d, ds1⟩ := q
    show _ = putKK1 i ma d ds1 (ds1[i]?)
    simp only
    cases ds1[i]? with
    | none => rfl
    | some o => cases o with
      | none => rfl
      | some _ =>
        show _ = putKK2 i d (ma ds1)
        simp only
        cases ma ds1 with
        | none => rfl
        | some q =>
          obtain ⟨e, ds2⟩ := q
          show _ = putKK3 i d ds2 (dKey e)
          simp only
          cases dKey e with
          | none => rfl
          | some k =>
            show _ = putKK4 i d k ds2 (ds2[i]?)
            simp only
            cases ds2[i]? with
            | none => rfl
            | some o => cases o with
              | none => rfl
              | some u => cases u with
                | dic oo ks es => cases oo with
                  | own => show _ = putKK5 i ks ds2 (putD ks es k d); simp only; cases putD ks es k d <;> rfl
                  | _ => rfl
                | _ => rfl
theorem mNewK_k : mNewK ds = some (.dic .own [] [], ds) := nrfl
theorem dDictD_1 {o : O} {ks : List Key} {es : List D} (h : cleans es = true) : dDictD [.dic o ks es] = some (.dic .own ks es) := by simp [dDictD, h]
end
end Z
namespace Z
open PySem L2
@[simp] theorem seqK_1 : seqK b (some (.nx ds)) = b ds := nrfl
@[simp] theorem seqK_2 : seqK b (some (.bk ds)) = some (.bk ds) := nrfl
@[simp] theorem seqK_3 : seqK b (some (.ct ds)) = some (.ct ds) := nrfl
@[simp] theorem seqK_4 : seqK b (some (.rt d ds)) = some (.rt d ds) := nrfl
@[simp] theorem seqK_5 : seqK b (none) = none := nrfl
@[simp] theorem ifK_1 : ifK a b (some (true, ds)) = a ds := nrfl
@[simp] theorem ifK_2 : ifK a b (some (false, ds)) = b ds := nrfl
@[simp] theorem ifK_3 : ifK a b (none) = none := nrfl
@[simp] theorem opK3_1 : opK3 ds (some d) = some (d, ds) := nrfl
@[simp] theorem opK3_2 : opK3 ds (none) = none := nrfl
@[simp] theorem opK2_1 : opK2 g d (some (e, ds)) = opK3 ds (g d e) := nrfl
@[simp] theorem opK2_2 : opK2 g d (none) = none := nrfl
@[simp] theorem opK_1 : opK g mb (some (d, ds)) = opK2 g d (mb ds) := nrfl
@[simp] theorem opK_2 : opK g mb (none) = none := nrfl
@[simp] theorem lookK3_1 : lookK3 e ds (some d') = if clean d' && clean e then some (d', ds) else none := nrfl
@[simp] theorem lookK3_2 : lookK3 e ds (none) = none := nrfl
@[simp] theorem lookK2_1 : lookK2 g e ds (some (some d)) = lookK3 e ds (g d e) := nrfl
@[simp] theorem lookK2_2 : lookK2 g e ds (none) = none := nrfl
@[simp] theorem lookK1_1 : lookK1 i g (some (e, ds)) = lookK2 g e ds (ds[i]?) := nrfl
@[simp] theorem lookK1_2 : lookK1 i g (none) = none := nrfl
@[simp] theorem lookK_1 : lookK i g mb ds (some (some zz1)) = lookK1 i g (mb ds) := nrfl
@[simp] theorem lookK_2 : lookK i g mb ds (none) = none := nrfl
@[simp] theorem varK_1 : varK i ds (some (some d)) = if clean d then some (d, ds) else if clean (fz d) then some (fz d, ds.set i (some (fz d))) else none := nrfl
@[simp] theorem varK_2 : varK i ds (none) = none := nrfl
@[simp] theorem moveK_1 : moveK i ds (some (some d)) = some (d, ds.set i none) := nrfl
@[simp] theorem moveK_2 : moveK i ds (none) = none := nrfl
@[simp] theorem tstK_1 : tstK  (some (.v (.bl b), ds)) = some (b, ds) := nrfl
@[simp] theorem tstK_2 : tstK  (none) = none := nrfl
@[simp] theorem andK_1 : andK b (some (true, ds)) = b ds := nrfl
@[simp] theorem andK_2 : andK b (some (false, ds)) = some (false, ds) := nrfl
@[simp] theorem andK_3 : andK b (none) = none := nrfl
@[simp] theorem orK_1 : orK b (some (true, ds)) = some (true, ds) := nrfl
@[simp] theorem orK_2 : orK b (some (false, ds)) = b ds := nrfl
@[simp] theorem orK_3 : orK b (none) = none := nrfl
@[simp] theorem notK_1 : notK  (some (b, ds)) = some (!b, ds) := nrfl
@[simp] theorem notK_2 : notK  (none) = none := nrfl
@[simp] theorem andVK_1 : andVK b (some (.v (.bl true), ds)) = b ds := nrfl
@[simp] theorem andVK_2 : andVK b (some (.v (.bl false), ds)) = some (.v (.bl false), ds) := nrfl
@[simp] theorem andVK_3 : andVK b (none) = none := nrfl
@[simp] theorem orVK_1 : orVK b (some (.v (.bl true), ds)) = some (.v (.bl true), ds) := nrfl
@[simp] theorem orVK_2 : orVK b (some (.v (.bl false), ds)) = b ds := nrfl
@[simp] theorem orVK_3 : orVK b (none) = none := nrfl
@[simp] theorem notVK_1 : notVK  (some (.v (.bl b), ds)) = some (.v (.bl (!b)), ds) := nrfl
@[simp] theorem notVK_2 : notVK  (none) = none := nrfl
@[simp] theorem negK_1 : negK  (some (.v (.int i), ds)) = some (.v (.int (-i)), ds) := nrfl
@[simp] theorem negK_2 : negK  (none) = none := nrfl
@[simp] theorem asgK_1 : asgK i (some (d, ds)) = setK i d ds := nrfl
@[simp] theorem asgK_2 : asgK i (none) = none := nrfl
@[simp] theorem retK_1 : retK  (some (d, ds)) = some (.rt d ds) := nrfl
@[simp] theorem retK_2 : retK  (none) = none := nrfl
@[simp] theorem dropK_1 : dropK  (some (zz1, ds)) = some (.nx ds) := nrfl
@[simp] theorem dropK_2 : dropK  (none) = none := nrfl
@[simp] theorem consK2_1 : consK2 d (some (es, ds)) = some (d :: es, ds) := nrfl
@[simp] theorem consK2_2 : consK2 d (none) = none := nrfl
@[simp] theorem consK_1 : consK r (some (d, ds)) = consK2 d (r ds) := nrfl
@[simp] theorem consK_2 : consK r (none) = none := nrfl
@[simp] theorem fnK_1 : fnK f (some (es, ds)) = opK3 ds (f es) := nrfl
@[simp] theorem fnK_2 : fnK f (none) = none := nrfl
@[simp] theorem setIxK3_1 : setIxK3 i d ds es (some j) = some (.nx (ds.set i (some (.lst .own (es.set j d))))) := nrfl
@[simp] theorem setIxK3_2 : setIxK3 i d ds es (none) = none := nrfl
@[simp] theorem setIxK2_1 : setIxK2 i d k ds (some (some (.lst .own es))) = setIxK3 i d ds es (ixN es.length k) := nrfl
@[simp] theorem setIxK2_2 : setIxK2 i d k ds (none) = none := nrfl
@[simp] theorem setIxK1_1 : setIxK1 i d (some (.v (.int k), ds)) = setIxK2 i d k ds (ds[i]?) := nrfl
@[simp] theorem setIxK1_2 : setIxK1 i d (none) = none := nrfl
@[simp] theorem setIxK0_1 : setIxK0 i mi d ds (some (some zz1)) = setIxK1 i d (mi ds) := nrfl
@[simp] theorem setIxK0_2 : setIxK0 i mi d ds (none) = none := nrfl
@[simp] theorem setIxK_1 : setIxK i mi (some (d, ds)) = setIxK0 i mi d ds (ds[i]?) := nrfl
@[simp] theorem setIxK_2 : setIxK i mi (none) = none := nrfl
@[simp] theorem augK2_1 : augK2 i g a (some (.v (.int b), ds)) = setK i (.v (.int (g a b))) ds := nrfl
@[simp] theorem augK2_2 : augK2 i g a (none) = none := nrfl
@[simp] theorem augK_1 : augK i g m ds (some (some (.v (.int a)))) = augK2 i g a (m ds) := nrfl
@[simp] theorem augK_2 : augK i g m ds (none) = none := nrfl
@[simp] theorem appendK1_1 : appendK1 i d ds (some (some (.lst .own es))) = if es.length < 10000000 then some (.nx (ds.set i (some (.lst .own (es ++ [d]))))) else none := nrfl
@[simp] theorem appendK1_2 : appendK1 i d ds (none) = none := nrfl
@[simp] theorem appendK0_1 : appendK0 i (some (d, ds)) = appendK1 i d ds (ds[i]?) := nrfl
@[simp] theorem appendK0_2 : appendK0 i (none) = none := nrfl
@[simp] theorem appendK_1 : appendK i m ds (some (some (.lst zz1 zz2))) = appendK0 i (m ds) := nrfl
@[simp] theorem appendK_2 : appendK i m ds (none) = none := nrfl
@[simp] theorem asgTK2_1 : asgTK2  (some ds) = some (.nx ds) := nrfl
@[simp] theorem asgTK2_2 : asgTK2  (none) = none := nrfl
@[simp] theorem asgTK_1 : asgTK a (some (d, ds)) = if clean d then asgTK2 (a d ds) else none := nrfl
@[simp] theorem asgTK_2 : asgTK a (none) = none := nrfl
@[simp] theorem itK2_1 : itK2 ds (some es) = some (es, ds) := nrfl
@[simp] theorem itK2_2 : itK2 ds (none) = none := nrfl
@[simp] theorem itK_1 : itK f (some (d, ds)) = itK2 ds (f d) := nrfl
@[simp] theorem itK_2 : itK f (none) = none := nrfl
@[simp] theorem rngK_1 : rngK  (some (es, ds)) = itK2 ds (mRng es) := nrfl
@[simp] theorem rngK_2 : rngK  (none) = none := nrfl
@[simp] theorem forK_1 : forK a b (some (items, ds)) = forL a b items ds := nrfl
@[simp] theorem forK_2 : forK a b (none) = none := nrfl
@[simp] theorem turnK_1 : turnK a b r (some (.nx ds)) = forL a b r ds := nrfl
@[simp] theorem turnK_2 : turnK a b r (some (.ct ds)) = forL a b r ds := nrfl
@[simp] theorem turnK_3 : turnK a b r (some (.bk ds)) = some (.nx ds) := nrfl
@[simp] theorem turnK_4 : turnK a b r (some (.rt d ds)) = some (.rt d ds) := nrfl
@[simp] theorem turnK_5 : turnK a b r (none) = none := nrfl
@[simp] theorem turnK0_1 : turnK0 a b r (some ds) = turnK a b r (b ds) := nrfl
@[simp] theorem turnK0_2 : turnK0 a b r (none) = none := nrfl
@[simp] theorem lcK1_1 : lcK1  (some (es, ds)) = some (.lst .own es, ds) := nrfl
@[simp] theorem lcK1_2 : lcK1  (none) = none := nrfl
@[simp] theorem lcK_1 : lcK a t m ws (some (items, ds)) = if items.length ≤ 1000000 then lcK1 (lcL a t m ws items (wipeD ds ws)) else none := nrfl
@[simp] theorem lcK_2 : lcK a t m ws (none) = none := nrfl
@[simp] theorem lcT2_1 : lcT2 a t m ws r (some (d, ds)) = consK2 d (lcL a t m ws r (wipeD ds ws)) := nrfl
@[simp] theorem lcT2_2 : lcT2 a t m ws r (none) = none := nrfl
@[simp] theorem lcT1_1 : lcT1 a t m ws r (some (true, ds)) = lcT2 a t m ws r (m ds) := nrfl
@[simp] theorem lcT1_2 : lcT1 a t m ws r (some (false, ds)) = lcL a t m ws r (wipeD ds ws) := nrfl
@[simp] theorem lcT1_3 : lcT1 a t m ws r (none) = none := nrfl
@[simp] theorem lcT0_1 : lcT0 a t m ws r (some ds) = lcT1 a t m ws r (t ds) := nrfl
@[simp] theorem lcT0_2 : lcT0 a t m ws r (none) = none := nrfl
@[simp] theorem callK2_1 : callK2 rs as ds (some (d, qs)) = some (d, put rs as qs ds) := nrfl
@[simp] theorem callK2_2 : callK2 rs as ds (none) = none := nrfl
@[simp] theorem callK1_1 : callK1 F rs (some (as, ds)) = callK2 rs as ds (F as) := nrfl
@[simp] theorem callK1_2 : callK1 F rs (none) = none := nrfl
@[simp] theorem callK_1 : callK F (some (rs, ds)) = callK1 F rs (take rs ds) := nrfl
@[simp] theorem callK_2 : callK F (none) = none := nrfl
@[simp] theorem argK2_1 : argK2 x (some (rs, ds)) = some (x :: rs, ds) := nrfl
@[simp] theorem argK2_2 : argK2 x (none) = none := nrfl
@[simp] theorem argK_1 : argK r (some (d, ds)) = argK2 (.inr d) (mArgs r ds) := nrfl
@[simp] theorem argK_2 : argK r (none) = none := nrfl
@[simp] theorem argB_1 : argB i r ds (some (some zz1)) = argK2 (.inl i) (mArgs r ds) := nrfl
@[simp] theorem argB_2 : argB i r ds (none) = none := nrfl
@[simp] theorem takeK_1 : takeK d (some (es, ds)) = some (d :: es, ds) := nrfl
@[simp] theorem takeK_2 : takeK d (none) = none := nrfl
@[simp] theorem takeB_1 : takeB i r ds (some (some d)) = takeK d (take r (if clean d then ds else ds.set i none)) := nrfl
@[simp] theorem takeB_2 : takeB i r ds (none) = none := nrfl
@[simp] theorem fnMK_1 : fnMK fx as (some (.rt d ds)) = some (d, outs fx 0 as ds) := nrfl
@[simp] theorem fnMK_2 : fnMK fx as (some (.nx ds)) = some (.v .non, outs fx 0 as ds) := nrfl
@[simp] theorem fnMK_3 : fnMK fx as (none) = none := nrfl
@[simp] theorem isNK_1 : isNK b (some (d, ds)) = some (.v (.bl (if b then isN d else !isN d)), ds) := nrfl
@[simp] theorem isNK_2 : isNK b (none) = none := nrfl
@[simp] theorem isNVK_1 : isNVK b ds (some (some d)) = some (.v (.bl (if b then isN d else !isN d)), ds) := nrfl
@[simp] theorem isNVK_2 : isNVK b ds (none) = none := nrfl
@[simp] theorem chnK3_1 : chnK3 p' j (some (.v (.int k), ds)) = some (.v (.bl (p' j k)), ds) := nrfl
@[simp] theorem chnK3_2 : chnK3 p' j (none) = none := nrfl
@[simp] theorem chnK2_1 : chnK2 p p' mc i (some (.v (.int j), ds)) = if p i j = true then chnK3 p' j (mc ds) else some (.v (.bl false), ds) := nrfl
@[simp] theorem chnK2_2 : chnK2 p p' mc i (none) = none := nrfl
@[simp] theorem chnK_1 : chnK p p' mb mc (some (.v (.int i), ds)) = chnK2 p p' mc i (mb ds) := nrfl
@[simp] theorem chnK_2 : chnK p p' mb mc (none) = none := nrfl
@[simp] theorem revK_1 : revK  (some (.lst zz1 es, ds)) = if cleans es then some (.lst .own es.reverse, ds) else none := nrfl
@[simp] theorem revK_2 : revK  (none) = none := nrfl
@[simp] theorem extendK1_1 : extendK1 i zs ds (some (some (.lst .own es))) = if es.length + zs.length < 10000000 then some (.nx (ds.set i (some (.lst .own (es ++ zs))))) else none := nrfl
@[simp] theorem extendK1_2 : extendK1 i zs ds (none) = none := nrfl
@[simp] theorem extendK0_1 : extendK0 i (some (.lst .own zs, ds)) = extendK1 i zs ds (ds[i]?) := nrfl
@[simp] theorem extendK0_2 : extendK0 i (some (.lst .fro zs, ds)) = extendK1 i zs ds (ds[i]?) := nrfl
@[simp] theorem extendK0_3 : extendK0 i (none) = none := nrfl
@[simp] theorem extendK_1 : extendK i m ds (some (some (.lst zz1 zz2))) = extendK0 i (m ds) := nrfl
@[simp] theorem extendK_2 : extendK i m ds (none) = none := nrfl
@[simp] theorem popK2_1 : popK2 i ds es (some d) = some (d, ds.set i (some (.lst .own es.dropLast))) := nrfl
@[simp] theorem popK2_2 : popK2 i ds es (none) = none := nrfl
@[simp] theorem popK_1 : popK i ds (some (some (.lst .own es))) = popK2 i ds es es[es.length - 1]? := nrfl
@[simp] theorem popK_2 : popK i ds (none) = none := nrfl
@[simp] theorem clearK_1 : clearK i ds (some (some (.lst .own zz1))) = some (.nx (ds.set i (some (.lst .own [])))) := nrfl
@[simp] theorem clearK_2 : clearK i ds (none) = none := nrfl
@[simp] theorem lookAK_1 : lookAK i mb ds (true) = mLook i dKx mb ds := nrfl
@[simp] theorem lookAK_2 : lookAK i mb ds (false) = mLook i dIx mb ds := nrfl
@[simp] theorem lookRK2_1 : lookRK2 g e ds (some (some d)) = lookK3 e ds (g d e) := nrfl
@[simp] theorem lookRK2_2 : lookRK2 g e ds (none) = none := nrfl
@[simp] theorem lookRK_1 : lookRK i g (some (e, ds)) = lookRK2 g e ds (ds[i]?) := nrfl
@[simp] theorem lookRK_2 : lookRK i g (none) = none := nrfl
@[simp] theorem inVK_1 : inVK b i ma ds (true) = mLookR i (dKin b) ma ds := nrfl
@[simp] theorem inVK_2 : inVK b i ma ds (false) = mLookR i (dInF b) ma ds := nrfl
@[simp] theorem pairsK4_1 : pairsK4 k d (some (l, ds)) = some ((k, d) :: l, ds) := nrfl
@[simp] theorem pairsK4_2 : pairsK4 k d (none) = none := nrfl
@[simp] theorem pairsK3_1 : pairsK3 r k (some (d, ds)) = pairsK4 k d (mPairs r ds) := nrfl
@[simp] theorem pairsK3_2 : pairsK3 r k (none) = none := nrfl
@[simp] theorem pairsK2_1 : pairsK2 mv r ds (some k) = pairsK3 r k (mv ds) := nrfl
@[simp] theorem pairsK2_2 : pairsK2 mv r ds (none) = none := nrfl
@[simp] theorem pairsK_1 : pairsK mv r (some (e, ds)) = pairsK2 mv r ds (dKey e) := nrfl
@[simp] theorem pairsK_2 : pairsK mv r (none) = none := nrfl
@[simp] theorem dispK2_1 : dispK2 ds (some (ks, es)) = some (.dic .own ks es, ds) := nrfl
@[simp] theorem dispK2_2 : dispK2 ds (none) = none := nrfl
@[simp] theorem dispK_1 : dispK  (some (l, ds)) = if l.length ≤ 15 then dispK2 ds (mergeD [] [] l) else none := nrfl
@[simp] theorem dispK_2 : dispK  (none) = none := nrfl
@[simp] theorem mergeK__1 : mergeK_ r (some (ks, es)) = mergeD ks es r := nrfl
@[simp] theorem mergeK__2 : mergeK_ r (none) = none := nrfl
@[simp] theorem parK2_1 : parK2 j e (some ds) = setK j e ds := nrfl
@[simp] theorem parK2_2 : parK2 j e (none) = none := nrfl
@[simp] theorem parK_1 : parK i j (some ([d, e], ds)) = parK2 j e (setSlot i d ds) := nrfl
@[simp] theorem parK_2 : parK i j (none) = none := nrfl
@[simp] theorem enumK_1 : enumK  (some ([.lst zz1 es], ds)) = if cleans (fzs es) then some (enumD 0 (fzs es), ds) else none := nrfl
@[simp] theorem enumK_2 : enumK  (none) = none := nrfl
@[simp] theorem zipK_1 : zipK  (some ([.lst zz1 es, .lst zz2 es2], ds)) = if cleans (fzs es) && cleans (fzs es2) then some (zipD (fzs es) (fzs es2), ds) else none := nrfl
@[simp] theorem zipK_2 : zipK  (none) = none := nrfl
@[simp] theorem lookLK_1 : lookLK i g mb ds (some (some (.lst zz1 zz2))) = mLook i g mb ds := nrfl
@[simp] theorem lookLK_2 : lookLK i g mb ds (none) = none := nrfl
@[simp] theorem mtK2_1 : mtK2 g a (some (es, ds)) = opK3 ds (g a es) := nrfl
@[simp] theorem mtK2_2 : mtK2 g a (none) = none := nrfl
@[simp] theorem mtK_1 : mtK g r (some (.v (.str a), ds)) = mtK2 g a (r ds) := nrfl
@[simp] theorem mtK_2 : mtK g r (none) = none := nrfl
@[simp] theorem orFzK_1 : orFzK i m ds (some r) = some r := nrfl
@[simp] theorem orFzK_2 : orFzK i m ds (none) = m (fzAt i ds) := nrfl
@[simp] theorem fzAtK_1 : fzAtK i ds (some (some d)) = if clean (fz d) then ds.set i (some (fz d)) else ds := nrfl
@[simp] theorem fzAtK_2 : fzAtK i ds (none) = ds := nrfl
@[simp] theorem frzK_1 : frzK  (some (d, ds)) = if clean (fz d) then some (fz d, ds) else none := nrfl
@[simp] theorem frzK_2 : frzK  (none) = none := nrfl
@[simp] theorem putKK5_1 : putKK5 i ks ds (some (ks', es')) = if ks.length < 10000000 then some (.nx (ds.set i (some (.dic .own ks' es')))) else none := nrfl
@[simp] theorem putKK5_2 : putKK5 i ks ds (none) = none := nrfl
@[simp] theorem putKK4_1 : putKK4 i d k ds (some (some (.dic .own ks es))) = putKK5 i ks ds (putD ks es k d) := nrfl
@[simp] theorem putKK4_2 : putKK4 i d k ds (none) = none := nrfl
@[simp] theorem putKK3_1 : putKK3 i d ds (some k) = putKK4 i d k ds (ds[i]?) := nrfl
@[simp] theorem putKK3_2 : putKK3 i d ds (none) = none := nrfl
@[simp] theorem putKK2_1 : putKK2 i d (some (e, ds)) = putKK3 i d ds (dKey e) := nrfl
@[simp] theorem putKK2_2 : putKK2 i d (none) = none := nrfl
@[simp] theorem putKK1_1 : putKK1 i mi d ds (some (some zz1)) = putKK2 i d (mi ds) := nrfl
@[simp] theorem putKK1_2 : putKK1 i mi d ds (none) = none := nrfl
@[simp] theorem putKK_1 : putKK i mi (some (d, ds)) = putKK1 i mi d ds (ds[i]?) := nrfl
@[simp] theorem putKK_2 : putKK i mi (none) = none := nrfl
theorem dIx_l : dIx (.lst o es) (.v (.int i)) = L2.atI es i := nrfl
theorem dIx_t : dIx (.tup es) (.v (.int i)) = L2.atI es i := nrfl
theorem dIx_k : dIx (.ktp es) (.v (.int i)) = L2.atI es i := nrfl
theorem gNl_1 : gNl [] ds = some ds := nrfl
def csK (r : MGs) (es : List D) : Option DS → Option DS
  | some ds => r es ds
  | none => none
theorem csK_1 : csK r es (some ds) = r es ds := nrfl
theorem gCs_1 {a : MG} {r : MGs} {d : D} {es : List D} {ds : DS} : gCs a r (d :: es) ds = csK r es (a d ds) := by show (match a d ds with | some ds1 => r es ds1 | none => none) = _; cases a d ds <;> rfl
theorem gTu_1 : gTu n m (.tup es) ds = if es.length = n then m es ds else none := nrfl
theorem itemsL_1 : itemsL (.lst o es) = if cleans (fzs es) then some (fzs es) else none := nrfl
theorem itemsT_1 : itemsT (.tup es) = if cleans (fzs es) then some (fzs es) else none := nrfl
theorem mRng_1 : mRng [.v (.int j)] = if j < 1000000000 ∧ -1000000000 < j then some (rangeD 0 j.toNat) else none := nrfl
theorem mRng_2 : mRng [.v (.int i), .v (.int j)] = if i < 1000000000 ∧ -1000000000 < i ∧ j < 1000000000 ∧ -1000000000 < j then some (rangeD i (j - i).toNat) else none := nrfl
theorem dTup_1 {es : List D} (h : es.length ≤ 100000) : dTup es = some (.tup es) := by unfold dTup; rw [if_pos h]
theorem dLst_1 {es : List D} (h : es.length ≤ 100000) : dLst es = some (.lst .own es) := by unfold dLst; rw [if_pos h]
theorem setSlot_1 {i : Nat} {d : D} {ds : DS} (h : i < ds.length) : setSlot i d ds = some (ds.set i (some d)) := by unfold setSlot; rw [if_pos h]
theorem setK_1 {i : Nat} {d : D} {ds : DS} (h : i < ds.length) : setK i d ds = some (.nx (ds.set i (some d))) := by unfold setK; rw [if_pos h]
theorem gNm_1 : gNm i d ds = setSlot i d ds := nrfl
theorem dLen_l : dLen [.lst o es] = some (.v (.int es.length)) := nrfl
theorem dLen_t : dLen [.tup es] = some (.v (.int es.length)) := nrfl
theorem dTuple_l {o : O} {es : List D} (h : cleans es = true) : dTuple [.lst o es] = some (.tup es) := by simp [dTuple, h]
theorem dTuple_t : dTuple [.tup es] = some (.tup es) := nrfl
theorem dList_l {o : O} {es : List D} (h : cleans es = true) : dList [.lst o es] = some (.lst .own es) := by simp [dList, h]
theorem dList_t {es : List D} (h : cleans es = true) : dList [.tup es] = some (.lst .own es) := by simp [dList, h]
theorem oNo_1 : oNo ds = some (none, ds) := nrfl
def oK : R1 → Option (Option Int × DS)
  | some (.v (.int i), ds) => some (some i, ds)
  | _ => none
theorem oYes_k : oYes m ds = oK (m ds) := nrfl
theorem oK_1 : oK (some (.v (.int i), ds)) = some (some i, ds) := nrfl
def slK2 (d : D) (l : Option Int) : Option (Option Int × DS) → R1
  | some (h, ds) => opK3 ds (dCut d l h)
  | none => none
def slK1 (d : D) (hi : MO) : Option (Option Int × DS) → R1
  | some (l, ds) => slK2 d l (hi ds)
  | none => none
def slK (lo hi : MO) : R1 → R1
  | some (d, ds) => if clean d then slK1 d hi (lo ds) else none
  | none => none
theorem mSl_k {m : ME} {lo hi : MO} {ds : DS} : mSl m lo hi ds = slK lo hi (m ds) := by
  unfold mSl; cases m ds with
  | none => rfl
  | some p =>
    obtain ⟨d, ds1⟩ := p
    show _ = (if clean d then slK1 d hi (lo ds1) else none)
    simp only
    split
    · cases lo ds1 with
      | none => rfl
      | some q =>
        obtain ⟨l, ds2⟩ := q
        show _ = slK2 d l (hi ds2)
        simp only
        cases hi ds2 with
        | none => rfl
        | some r => obtain ⟨h, ds3⟩ := r; show _ = opK3 ds3 (dCut d l h); simp only; cases dCut d l h <;> rfl
    · rfl
theorem slK_1 : slK lo hi (some (d, ds)) = if clean d then slK1 d hi (lo ds) else none := nrfl
theorem slK1_1 : slK1 d hi (some (l, ds)) = slK2 d l (hi ds) := nrfl
theorem slK2_1 : slK2 d l (some (h, ds)) = opK3 ds (dCut d l h) := nrfl
theorem dCut_l {o : O} {es : List D} {l h : Option Int} (c : cleans es = true) : dCut (.lst o es) l h = some (.lst .own (cutL es l h)) := by unfold dCut; simp [c]
theorem dCut_t {es : List D} {l h : Option Int} (c : cleans es = true) : dCut (.tup es) l h = some (.tup (cutL es l h)) := by unfold dCut; simp [c]
end Z
namespace Z
open PySem L2
class K1 (α : Type) where
  run : α → Prop
def Ok {α : Type} (x : Option α) [Q : K1 α] : Prop := ∃ a, x = some a ∧ Q.run a
section
variable {α β : Type} {a : α} {x y : Option α} {P Q : α → Prop}
theorem ok_some : @Ok _ (some a) ⟨Q⟩ = Q a := by
  refine propext ⟨fun h => ?_, fun q => ⟨a, rfl, q⟩⟩
  obtain ⟨b, e, q⟩ := h; injection e with e; subst e; exact q
theorem ok_none : @Ok _ (none : Option α) ⟨Q⟩ = False := by
  refine propext ⟨fun h => ?_, fun h => h.elim⟩
  obtain ⟨_, e, _⟩ := h; exact nomatch e
theorem Ok.mono (h : @Ok _ x ⟨P⟩) (k : ∀ a, P a → Q a) : @Ok _ x ⟨Q⟩ := let ⟨a, e, p⟩ := h; ⟨a, e, k a p⟩
theorem ok_is (h : @Ok _ x ⟨fun b => b = a⟩) : x = some a := by
  obtain ⟨b, e, rfl⟩ := h; exact e
def Br (c : Prop) [A : K1 Unit] [B : K1 Unit] : Prop := (c → A.run ()) ∧ (¬ c → B.run ())
theorem br_true {A B : Unit → Prop} : @Br True ⟨A⟩ ⟨B⟩ = A () := propext ⟨fun h => h.1 trivial, fun h => ⟨fun _ => h, fun n => (n trivial).elim⟩⟩
theorem br_false {A B : Unit → Prop} : @Br False ⟨A⟩ ⟨B⟩ = B () := propext ⟨fun h => h.2 id, fun h => ⟨fun n => n.elim, fun _ => h⟩⟩
theorem br_mk {c : Prop} {A B : Unit → Prop} (h : c → A ()) (k : ¬ c → B ()) : @Br c ⟨A⟩ ⟨B⟩ := ⟨h, k⟩
theorem br_pos {c : Prop} {A B : Unit → Prop} (h : c) (k : A ()) : @Br c ⟨A⟩ ⟨B⟩ := ⟨fun _ => k, fun n => (n h).elim⟩
theorem br_neg {c : Prop} {A B : Unit → Prop} (h : ¬ c) (k : B ()) : @Br c ⟨A⟩ ⟨B⟩ := ⟨fun n => (h n).elim, fun _ => k⟩
def Leaf {α : Type} (a : α) [Q : K1 α] : Prop := Q.run a
theorem Leaf.mk {α : Type} {a : α} {P : α → Prop} (h : P a) : @Leaf _ a ⟨P⟩ := h
theorem Leaf.out {α : Type} {a : α} {P : α → Prop} (h : @Leaf _ a ⟨P⟩) : P a := h
def Req (c : Prop) [A : K1 Unit] : Prop := c ∧ A.run ()
theorem req_true {A : Unit → Prop} : @Req True ⟨A⟩ = A () := propext ⟨fun h => h.2, fun h => ⟨trivial, h⟩⟩
theorem req_mk {c : Prop} {A : Unit → Prop} (h : c) (k : A ()) : @Req c ⟨A⟩ := ⟨h, k⟩
theorem req_false {A : Unit → Prop} : @Req False ⟨A⟩ = False := propext ⟨fun h => h.1, fun h => h.elim⟩
end
section
variable {a b : MS} {ma mb mc m : ME} {t t2 : MT} {mi mr : MA} {ga : MG} {ds : DS} {g : D → D → Option D} {f : List D → Option D} {i j l : Nat}
  {Q : D × DS → Prop} {QS : Out → Prop} {QT : Bool × DS → Prop} {QA : List D × DS → Prop} {QD : D → Prop} {QG : DS → Prop}
@[simp ↓] theorem ok_C {x : V} : @Ok _ (mC x ds) ⟨Q⟩ = Q (.v x, ds) := ok_some
@[simp ↓] theorem ok_K {d : D} : @Ok _ (mK d ds) ⟨Q⟩ = Q (d, ds) := ok_some
@[simp ↓] theorem ok_Var : @Ok _ (mVar i ds) ⟨Q⟩ = @Ok _ ds[i]? ⟨fun o => @Ok _ o ⟨fun d => @Br (clean d = true) ⟨(fun _ => Q (d, ds))⟩ ⟨fun _ => @Req (clean (fz d) = true) ⟨fun _ => Q (fz d, ds.set i (some (fz d)))⟩⟩⟩⟩ := by
  unfold mVar
  rcases ds[i]? with _ | _ | d
  · simp [ok_none]
  · simp [ok_none, ok_some]
  · simp only [ok_some]
    split
    · rename_i h; rw [ok_some, eq_true h, br_true]
    · rename_i h; rw [eq_false h, br_false]; split
      · rename_i h; rw [ok_some, eq_true h, req_true]
      · rename_i h; rw [ok_none, eq_false h, req_false]
@[simp ↓] theorem ok_Move : @Ok _ (mMove i ds) ⟨Q⟩ = @Ok _ ds[i]? ⟨fun o => @Ok _ o ⟨fun d => Q (d, ds.set i none)⟩⟩ := by
  unfold mMove
  rcases ds[i]? with _ | _ | d
  · simp [ok_none]
  · simp [ok_none, ok_some]
  · simp only [ok_some]
@[simp ↓] theorem ok_Op : @Ok _ (mOp g ma mb ds) ⟨Q⟩ = @Ok _ (ma ds) ⟨fun p => @Ok _ (mb p.2) ⟨fun q => @Ok _ (g p.1 q.1) ⟨fun d => Q (d, q.2)⟩⟩⟩ := by
  unfold mOp
  rcases ma ds with _ | ⟨d, ds1⟩
  · simp only [ok_none]
  simp only [ok_some]
  rcases mb ds1 with _ | ⟨e, ds2⟩
  · simp only [ok_none]
  simp only [ok_some]
  rcases g d e with _ | u <;> simp only [ok_none, ok_some]
/-- what a test's value is -/
def tstB (QT : Bool × DS → Prop) : D × DS → Prop
  | (.v (.bl b), ds) => QT (b, ds)
  | _ => False
@[simp] theorem tstB_1 {b : Bool} : tstB QT (.v (.bl b), ds) = QT (b, ds) := nrfl
@[simp ↓] theorem ok_Tst : @Ok _ (mTst m ds) ⟨QT⟩ = @Ok _ (m ds) ⟨(tstB QT)⟩ := by
  unfold mTst
  rcases m ds with _ | ⟨d, ds1⟩
  · simp only [ok_none]
  · cases d with
    | v x => cases x <;> simp only [ok_none, ok_some, tstB]
    | _ => simp only [ok_none, ok_some, tstB]
@[simp ↓] theorem ok_And : @Ok _ (mAnd t t2 ds) ⟨QT⟩ = @Ok _ (t ds) ⟨fun p => @Br (p.1 = true) ⟨(fun _ => @Ok _ (t2 p.2) ⟨QT⟩)⟩ ⟨fun _ => QT (false, p.2)⟩⟩ := by
  unfold mAnd
  rcases t ds with _ | ⟨c, ds1⟩
  · simp only [ok_none]
  · cases c <;> simp [ok_some, br_true, br_false]
@[simp ↓] theorem ok_Or : @Ok _ (mOr t t2 ds) ⟨QT⟩ = @Ok _ (t ds) ⟨fun p => @Br (p.1 = true) ⟨(fun _ => QT (true, p.2))⟩ ⟨fun _ => @Ok _ (t2 p.2) ⟨QT⟩⟩⟩ := by
  unfold mOr
  rcases t ds with _ | ⟨c, ds1⟩
  · simp only [ok_none]
  · cases c <;> simp [ok_some, br_true, br_false]
@[simp ↓] theorem ok_Not : @Ok _ (mNot t ds) ⟨QT⟩ = @Ok _ (t ds) ⟨fun p => QT (!p.1, p.2)⟩ := by
  unfold mNot
  rcases t ds with _ | ⟨c, ds1⟩
  · simp only [ok_none]
  · simp only [ok_some]
@[simp ↓] theorem ok_Yes : @Ok _ (mYes ds) ⟨QT⟩ = QT (true, ds) := ok_some
def blB (R : Bool → DS → Prop) : D × DS → Prop
  | (.v (.bl b), ds) => R b ds
  | _ => False
@[simp] theorem blB_1 {b : Bool} {R : Bool → DS → Prop} : blB R (.v (.bl b), ds) = R b ds := nrfl
@[simp ↓] theorem ok_AndV : @Ok _ (mAndV ma mb ds) ⟨Q⟩ = @Ok _ (ma ds) ⟨(blB fun b ds1 => @Br (b = true) ⟨(fun _ => @Ok _ (mb ds1) ⟨Q⟩)⟩ ⟨fun _ => Q (.v (.bl false), ds1)⟩)⟩ := by
  unfold mAndV
  rcases ma ds with _ | ⟨d, ds1⟩
  · simp only [ok_none]
  · cases d with
    | v x => cases x with
      | bl b => cases b <;> simp [ok_some, blB, br_true, br_false]
      | _ => simp only [ok_none, ok_some, blB]
    | _ => simp only [ok_none, ok_some, blB]
@[simp ↓] theorem ok_OrV : @Ok _ (mOrV ma mb ds) ⟨Q⟩ = @Ok _ (ma ds) ⟨(blB fun b ds1 => @Br (b = true) ⟨(fun _ => Q (.v (.bl true), ds1))⟩ ⟨fun _ => @Ok _ (mb ds1) ⟨Q⟩⟩)⟩ := by
  unfold mOrV
  rcases ma ds with _ | ⟨d, ds1⟩
  · simp only [ok_none]
  · cases d with
    | v x => cases x with
      | bl b => cases b <;> simp [ok_some, blB, br_true, br_false]
      | _ => simp only [ok_none, ok_some, blB]
    | _ => simp only [ok_none, ok_some, blB]
@[simp ↓] theorem ok_NotV : @Ok _ (mNotV ma ds) ⟨Q⟩ = @Ok _ (ma ds) ⟨(blB fun b ds1 => Q (.v (.bl (!b)), ds1))⟩ := by
  unfold mNotV
  rcases ma ds with _ | ⟨d, ds1⟩
  · simp only [ok_none]
  · cases d with
    | v x => cases x with
      | bl b => cases b <;> simp [ok_some, blB]
      | _ => simp only [ok_none, ok_some, blB]
    | _ => simp only [ok_none, ok_some, blB]
@[simp ↓] theorem ok_IfE : @Ok _ (mIfE t ma mb ds) ⟨Q⟩ = @Ok _ (t ds) ⟨fun p => @Br (p.1 = true) ⟨(fun _ => @Ok _ (ma p.2) ⟨Q⟩)⟩ ⟨fun _ => @Ok _ (mb p.2) ⟨Q⟩⟩⟩ := by
  unfold mIfE
  rcases t ds with _ | ⟨c, ds1⟩
  · simp only [ok_none]
  · cases c <;> simp [ok_some, br_true, br_false]
def inB (R : Int → DS → Prop) : D × DS → Prop
  | (.v (.int b), ds) => R b ds
  | _ => False
@[simp] theorem inB_1 {b : Int} {R : Int → DS → Prop} : inB R (.v (.int b), ds) = R b ds := nrfl
@[simp ↓] theorem ok_Neg : @Ok _ (mNeg m ds) ⟨Q⟩ = @Ok _ (m ds) ⟨(inB fun b ds1 => Q (.v (.int (-b)), ds1))⟩ := by
  unfold mNeg
  rcases m ds with _ | ⟨d, ds1⟩
  · simp only [ok_none]
  · cases d with
    | v x => cases x <;> simp only [ok_none, ok_some, inB]
    | _ => simp only [ok_none, ok_some, inB]
@[simp ↓] theorem ok_Nil : @Ok _ (mNil ds) ⟨QA⟩ = QA ([], ds) := ok_some
@[simp ↓] theorem ok_Cons : @Ok _ (mCons m mr ds) ⟨QA⟩ = @Ok _ (m ds) ⟨fun p => @Ok _ (mr p.2) ⟨fun q => QA (p.1 :: q.1, q.2)⟩⟩ := by
  unfold mCons
  rcases m ds with _ | ⟨d, ds1⟩
  · simp only [ok_none]
  simp only [ok_some]
  rcases mr ds1 with _ | ⟨e, ds2⟩ <;> simp only [ok_none, ok_some]
@[simp ↓] theorem ok_Fn : @Ok _ (mFn f mr ds) ⟨Q⟩ = @Ok _ (mr ds) ⟨fun p => @Ok _ (f p.1) ⟨fun d => Q (d, p.2)⟩⟩ := by
  unfold mFn
  rcases mr ds with _ | ⟨d, ds1⟩
  · simp only [ok_none]
  simp only [ok_some]
  rcases f d with _ | u <;> simp only [ok_none, ok_some]
@[simp ↓] theorem ok_Look : @Ok _ (mLook i g mb ds) ⟨Q⟩ = @Ok _ ds[i]? ⟨fun o => @Ok _ o ⟨fun _ => @Ok _ (mb ds) ⟨fun p => @Ok _ p.2[i]? ⟨fun o => @Ok _ o ⟨fun d => @Ok _ (g d p.1) ⟨fun d' => @Req (clean d' = true) ⟨fun _ => @Req (clean p.1 = true) ⟨fun _ => Q (d', p.2)⟩⟩⟩⟩⟩⟩⟩⟩ := by
  unfold mLook
  rcases ds[i]? with _ | _ | d0
  · simp only [ok_none]
  · simp only [ok_none, ok_some]
  simp only [ok_some]
  rcases mb ds with _ | ⟨e, ds1⟩
  · simp only [ok_none]
  simp only [ok_some]
  rcases ds1[i]? with _ | _ | d
  · simp only [ok_none]
  · simp only [ok_none, ok_some]
  simp only [ok_some]
  rcases g d e with _ | d'
  · simp only [ok_none]
  simp only [ok_some]
  cases clean d' <;> cases clean e <;> simp [ok_none, ok_some, req_true, req_false]
@[simp ↓] theorem ok_LookR : @Ok _ (mLookR i g ma ds) ⟨Q⟩ = @Ok _ (ma ds) ⟨fun p => @Ok _ p.2[i]? ⟨fun o => @Ok _ o ⟨fun d => @Ok _ (g d p.1) ⟨fun d' => @Req (clean d' = true) ⟨fun _ => @Req (clean p.1 = true) ⟨fun _ => Q (d', p.2)⟩⟩⟩⟩⟩⟩ := by
  unfold mLookR
  rcases ma ds with _ | ⟨e, ds1⟩
  · simp only [ok_none]
  simp only [ok_some]
  rcases ds1[i]? with _ | _ | d
  · simp only [ok_none]
  · simp only [ok_none, ok_some]
  simp only [ok_some]
  rcases g d e with _ | d'
  · simp only [ok_none]
  simp only [ok_some]
  cases clean d' <;> cases clean e <;> simp [ok_none, ok_some, req_true, req_false]
def lookAB (i : Nat) (mb : ME) (ds : DS) (Q : D × DS → Prop) : Bool → Prop
  | true => @Ok _ (mLook i dKx mb ds) ⟨Q⟩
  | false => @Ok _ (mLook i dIx mb ds) ⟨Q⟩
@[simp] theorem lookAB_1 : lookAB i mb ds Q true = @Ok _ (mLook i dKx mb ds) ⟨Q⟩ := nrfl
@[simp] theorem lookAB_2 : lookAB i mb ds Q false = @Ok _ (mLook i dIx mb ds) ⟨Q⟩ := nrfl
@[simp ↓] theorem ok_LookA : @Ok _ (mLookA i mb ds) ⟨Q⟩ = lookAB i mb ds Q (isDic ds[i]?) := by
  unfold mLookA; cases isDic ds[i]? <;> rfl
def inVB (b : Bool) (i : Nat) (mb : ME) (ds : DS) (Q : D × DS → Prop) : Bool → Prop
  | true => @Ok _ (mLookR i (dKin b) mb ds) ⟨Q⟩
  | false => @Ok _ (mLookR i (dInF b) mb ds) ⟨Q⟩
@[simp] theorem inVB_1 {c : Bool} : inVB c i mb ds Q true = @Ok _ (mLookR i (dKin c) mb ds) ⟨Q⟩ := nrfl
@[simp] theorem inVB_2 {c : Bool} : inVB c i mb ds Q false = @Ok _ (mLookR i (dInF c) mb ds) ⟨Q⟩ := nrfl
@[simp ↓] theorem ok_InV {c : Bool} : @Ok _ (mInV c i mb ds) ⟨Q⟩ = inVB c i mb ds Q (isDic ds[i]?) := by
  unfold mInV; cases isDic ds[i]? <;> rfl
@[simp ↓] theorem ok_LookL : @Ok _ (mLookL i g mb ds) ⟨Q⟩ = @Ok _ ds[i]? ⟨fun o => @Ok _ o ⟨fun d => @Req ((match d with | .lst _ _ => true | _ => false) = true) ⟨fun _ => @Ok _ (mLook i g mb ds) ⟨Q⟩⟩⟩⟩ := by
  unfold mLookL
  rcases ds[i]? with _ | _ | d0
  · simp only [ok_none]
  · simp only [ok_none, ok_some]
  cases d0 <;> simp [ok_some, ok_none, req_true, req_false]
/-! statements -/
@[simp ↓] theorem ok_Skip : @Ok _ (mSkip ds) ⟨QS⟩ = QS (.nx ds) := ok_some
def seqB (b : MS) (QS : Out → Prop) : Out → Prop
  | .nx ds => @Ok _ (b ds) ⟨QS⟩
  | o => QS o
@[simp] theorem seqB_1 : seqB b QS (.nx ds) = @Ok _ (b ds) ⟨QS⟩ := nrfl
@[simp] theorem seqB_2 : seqB b QS (.bk ds) = QS (.bk ds) := nrfl
@[simp] theorem seqB_3 : seqB b QS (.ct ds) = QS (.ct ds) := nrfl
@[simp] theorem seqB_4 {d : D} : seqB b QS (.rt d ds) = QS (.rt d ds) := nrfl
@[simp ↓] theorem ok_Seq : @Ok _ (mSeq a b ds) ⟨QS⟩ = @Ok _ (a ds) ⟨(seqB b QS)⟩ := by
  unfold mSeq
  rcases a ds with _ | o
  · simp only [ok_none]
  · cases o <;> simp only [ok_some, seqB]
@[simp ↓] theorem ok_If : @Ok _ (mIf t a b ds) ⟨QS⟩ = @Ok _ (t ds) ⟨fun p => @Br (p.1 = true) ⟨(fun _ => @Ok _ (a p.2) ⟨QS⟩)⟩ ⟨fun _ => @Ok _ (b p.2) ⟨QS⟩⟩⟩ := by
  unfold mIf
  rcases t ds with _ | ⟨c, ds1⟩
  · simp only [ok_none]
  · cases c <;> simp [ok_some, br_true, br_false]
@[simp ↓] theorem ok_setSlot {d : D} : @Ok _ (setSlot i d ds) ⟨QG⟩ = @Req (i < ds.length) ⟨fun _ => QG (ds.set i (some d))⟩ := by
  unfold setSlot
  split
  · rename_i h; rw [eq_true h, req_true, ok_some]
  · rename_i h; rw [eq_false h, req_false, ok_none]
@[simp ↓] theorem ok_map {α β : Type} {h : α → β} {x : Option α} {R : β → Prop} : @Ok _ (x.map h) ⟨R⟩ = @Ok _ x ⟨fun a => R (h a)⟩ := by
  cases x <;> simp [ok_none, ok_some]
@[simp ↓] theorem ok_Asg : @Ok _ (mAsg i m ds) ⟨QS⟩ = @Ok _ (m ds) ⟨fun p => @Req (i < p.2.length) ⟨fun _ => QS (.nx (p.2.set i (some p.1)))⟩⟩ := by
  unfold mAsg
  rcases m ds with _ | ⟨d, ds1⟩
  · simp only [ok_none]
  simp only [ok_some, ok_map, ok_setSlot]
@[simp ↓] theorem ok_Ret : @Ok _ (mRet m ds) ⟨QS⟩ = @Ok _ (m ds) ⟨fun p => QS (.rt p.1 p.2)⟩ := by
  unfold mRet
  rcases m ds with _ | ⟨d, ds1⟩ <;> simp only [ok_none, ok_some]
@[simp ↓] theorem ok_RetN : @Ok _ (mRetN ds) ⟨QS⟩ = QS (.rt (.v .non) ds) := ok_some
@[simp ↓] theorem ok_Drop : @Ok _ (mDrop m ds) ⟨QS⟩ = @Ok _ (m ds) ⟨fun p => QS (.nx p.2)⟩ := by
  unfold mDrop
  rcases m ds with _ | ⟨d, ds1⟩ <;> simp only [ok_none, ok_some]
@[simp ↓] theorem ok_Brk : @Ok _ (mBrk ds) ⟨QS⟩ = QS (.bk ds) := ok_some
@[simp ↓] theorem ok_Cnt : @Ok _ (mCnt ds) ⟨QS⟩ = QS (.ct ds) := ok_some
def fnB (fx : Nat → Bool) (as : List D) (Q : D × DS → Prop) : Out → Prop
  | .rt d ds => Q (d, outs fx 0 as ds)
  | .nx ds => Q (.v .non, outs fx 0 as ds)
  | _ => False
section
variable {fx : Nat → Bool} {as : List D}
@[simp] theorem fnB_1 {d : D} : fnB fx as Q (.rt d ds) = Q (d, outs fx 0 as ds) := nrfl
@[simp] theorem fnB_2 : fnB fx as Q (.nx ds) = Q (.v .non, outs fx 0 as ds) := nrfl
@[simp ↓] theorem ok_fnM {np n : Nat} : @Ok _ (fnM np n fx a as) ⟨Q⟩ = @Req (as.length = np) ⟨fun _ => @Ok _ (a (as.map some ++ List.replicate (n - np) none)) ⟨(fnB fx as Q)⟩⟩ := by
  unfold fnM
  split
  · rename_i h
    rw [eq_true h, req_true]
    rcases a (as.map some ++ List.replicate (n - np) none) with _ | o
    · simp only [ok_none]
    · cases o <;> simp only [ok_some, ok_none, fnB]
  · rename_i h; rw [eq_false h, req_false, ok_none]
end
@[simp ↓] theorem ok_argN {R : List (Nat ⊕ D) × DS → Prop} : @Ok _ (mArgs [] ds) ⟨R⟩ = R ([], ds) := ok_some
@[simp ↓] theorem ok_argE {r : List Arg} {R : List (Nat ⊕ D) × DS → Prop} : @Ok _ (mArgs (.ex m :: r) ds) ⟨R⟩ = @Ok _ (m ds) ⟨fun p => @Ok _ (mArgs r p.2) ⟨fun q => R (.inr p.1 :: q.1, q.2)⟩⟩ := by
  rw [mArgs]
  rcases m ds with _ | ⟨d, ds1⟩
  · simp only [ok_none]
  simp only [ok_some]
  rcases mArgs r ds1 with _ | ⟨e, ds2⟩ <;> simp only [ok_none, ok_some]
@[simp ↓] theorem ok_argB {r : List Arg} {R : List (Nat ⊕ D) × DS → Prop} : @Ok _ (mArgs (.bo i :: r) ds) ⟨R⟩ = @Ok _ ds[i]? ⟨fun o => @Ok _ o ⟨fun _ => @Ok _ (mArgs r ds) ⟨fun q => R (.inl i :: q.1, q.2)⟩⟩⟩ := by
  rw [mArgs]
  rcases ds[i]? with _ | _ | d0
  · simp only [ok_none]
  · simp only [ok_none, ok_some]
  simp only [ok_some]
  rcases mArgs r ds with _ | ⟨e, ds2⟩ <;> simp only [ok_none, ok_some]
@[simp ↓] theorem ok_Call {F : List D → Option (D × DS)} {args : List Arg} : @Ok _ (mCall F args ds) ⟨Q⟩ = @Ok _ (mArgs args ds) ⟨fun p => @Ok _ (take p.1 p.2) ⟨fun q => @Ok _ (F q.1) ⟨fun r => Q (r.1, put p.1 q.1 r.2 q.2)⟩⟩⟩ := by
  unfold mCall
  rcases mArgs args ds with _ | ⟨d, ds1⟩
  · simp only [ok_none]
  simp only [ok_some]
  rcases take d ds1 with _ | ⟨as, ds2⟩
  · simp only [ok_none]
  simp only [ok_some]
  rcases F as with _ | ⟨d, os⟩ <;> simp only [ok_none, ok_some]
def ownB (R : List D → Prop) : D → Prop
  | .lst .own es => R es
  | _ => False
@[simp] theorem ownB_1 {es : List D} {R : List D → Prop} : ownB R (.lst .own es) = R es := nrfl
@[simp ↓] theorem ok_SetIx : @Ok _ (mSetIx i ma m ds) ⟨QS⟩ = @Ok _ (m ds) ⟨fun p => @Ok _ p.2[i]? ⟨fun o => @Ok _ o ⟨fun _ => @Ok _ (ma p.2) ⟨(inB fun k ds2 => @Ok _ ds2[i]? ⟨fun o => @Ok _ o ⟨(ownB fun es => @Ok _ (ixN es.length k) ⟨fun j => QS (.nx (ds2.set i (some (.lst .own (es.set j p.1)))))⟩)⟩⟩)⟩⟩⟩⟩ := by
  unfold mSetIx
  rcases m ds with _ | ⟨d, ds1⟩
  · simp only [ok_none]
  simp only [ok_some]
  rcases ds1[i]? with _ | _ | d0
  · simp only [ok_none]
  · simp only [ok_none, ok_some]
  simp only [ok_some]
  rcases ma ds1 with _ | ⟨e, ds2⟩
  · simp only [ok_none]
  cases e with
  | v x => cases x with
    | int k =>
      simp only [ok_some, inB]
      rcases ds2[i]? with _ | _ | d0
      · simp only [ok_none]
      · simp only [ok_none, ok_some]
      cases d0 with
      | lst o es =>
        cases o with
        | own =>
          simp only [ok_some, ownB]
          rcases ixN es.length k with _ | j <;> simp only [ok_none, ok_some]
        | _ => simp only [ok_none, ok_some, ownB]
      | _ => simp only [ok_none, ok_some, ownB]
    | _ => simp only [ok_none, ok_some, inB]
  | _ => simp only [ok_none, ok_some, inB]
def inD (R : Int → Prop) : D → Prop
  | .v (.int b) => R b
  | _ => False
@[simp] theorem inD_1 {b : Int} {R : Int → Prop} : inD R (.v (.int b)) = R b := nrfl
@[simp ↓] theorem ok_Aug {h : Int → Int → Int} : @Ok _ (mAug i h m ds) ⟨QS⟩ = @Ok _ ds[i]? ⟨fun o => @Ok _ o ⟨(inD fun u => @Ok _ (m ds) ⟨(inB fun v ds1 => @Req (i < ds1.length) ⟨fun _ => QS (.nx (ds1.set i (some (.v (.int (h u v))))))⟩)⟩)⟩⟩ := by
  unfold mAug
  rcases ds[i]? with _ | _ | d0
  · simp only [ok_none]
  · simp only [ok_none, ok_some]
  cases d0 with
  | v x => cases x with
    | int u =>
      simp only [ok_some, inD]
      rcases m ds with _ | ⟨e, ds2⟩
      · simp only [ok_none]
      cases e with
      | v x => cases x <;> simp only [ok_none, ok_some, inB, ok_map, ok_setSlot]
      | _ => simp only [ok_none, ok_some, inB]
    | _ => simp only [ok_none, ok_some, inD]
  | _ => simp only [ok_none, ok_some, inD]
@[simp ↓] theorem ok_It {h : D → Option (List D)} : @Ok _ (mIt h m ds) ⟨QA⟩ = @Ok _ (m ds) ⟨fun p => @Ok _ (h p.1) ⟨fun es => QA (es, p.2)⟩⟩ := by
  unfold mIt
  rcases m ds with _ | ⟨d, ds1⟩
  · simp only [ok_none]
  simp only [ok_some]
  rcases h d with _ | u <;> simp only [ok_none, ok_some]
@[simp ↓] theorem ok_RngA : @Ok _ (mRngA mr ds) ⟨QA⟩ = @Ok _ (mr ds) ⟨fun p => @Ok _ (mRng p.1) ⟨fun es => QA (es, p.2)⟩⟩ := by
  unfold mRngA
  rcases mr ds with _ | ⟨d, ds1⟩
  · simp only [ok_none]
  simp only [ok_some]
  rcases mRng d with _ | u <;> simp only [ok_none, ok_some]
@[simp ↓] theorem ok_For : @Ok _ (mFor mi ga b ds) ⟨QS⟩ = @Ok _ (mi ds) ⟨fun p => @Ok _ (forL ga b p.1 p.2) ⟨QS⟩⟩ := by
  unfold mFor
  rcases mi ds with _ | ⟨d, ds1⟩ <;> simp only [ok_none, ok_some]
/-- what a turn of a loop leads to -/
def turnB (QS : Out → Prop) (N : DS → Prop) : Out → Prop
  | .nx ds => N ds
  | .ct ds => N ds
  | .bk ds => QS (.nx ds)
  | .rt d ds => QS (.rt d ds)
@[simp] theorem turnB_1 {N : DS → Prop} : turnB QS N (.nx ds) = N ds := nrfl
@[simp] theorem turnB_2 {N : DS → Prop} : turnB QS N (.ct ds) = N ds := nrfl
@[simp] theorem turnB_3 {N : DS → Prop} : turnB QS N (.bk ds) = QS (.nx ds) := nrfl
@[simp] theorem turnB_4 {N : DS → Prop} {d : D} : turnB QS N (.rt d ds) = QS (.rt d ds) := nrfl
@[simp ↓] theorem ok_forN : @Ok _ (forL ga b [] ds) ⟨QS⟩ = QS (.nx ds) := ok_some
theorem ok_forC {x : D} {r : List D} : @Ok _ (forL ga b (x :: r) ds) ⟨QS⟩ = @Ok _ (ga x ds) ⟨fun ds1 => @Ok _ (b ds1) ⟨(turnB QS fun ds2 => @Ok _ (forL ga b r ds2) ⟨QS⟩)⟩⟩ := by
  rw [forL]
  rcases ga x ds with _ | ds1
  · simp only [ok_none]
  simp only [ok_some]
  rcases b ds1 with _ | o
  · simp only [ok_none]
  cases o <;> simp only [ok_some, turnB]
/-- a loop by what holds behind each turn -/
theorem ok_forI {α : Type} (enc : α → D) (xs : List α) (I : List α → DS → Prop) (h0 : I [] ds)
    (hs : ∀ pre x rest ds, xs = pre ++ x :: rest → I pre ds → @Ok _ (ga (enc x) ds) ⟨fun ds1 => @Ok _ (b ds1) ⟨(turnB QS fun ds2 => @Leaf _ ds2 ⟨(fun ds2 => I (pre ++ [x]) ds2)⟩)⟩⟩)
    (hd : ∀ ds, I xs ds → QS (.nx ds)) : @Ok _ (forL ga b (xs.map enc) ds) ⟨QS⟩ := by
  suffices ∀ (rest pre : List α) ds, xs = pre ++ rest → I pre ds → @Ok _ (forL ga b (rest.map enc) ds) ⟨QS⟩ from this xs [] ds rfl h0
  intro rest
  induction rest with
  | nil => intro pre ds e h; rw [List.map_nil, ok_forN]; rw [List.append_nil] at e; subst e; exact hd ds h
  | cons x rest ih =>
    intro pre ds e h
    rw [List.map_cons, ok_forC]
    refine (hs pre x rest ds e h).mono fun ds1 h1 => h1.mono fun o h2 => ?_
    have e2 : xs = (pre ++ [x]) ++ rest := by rw [e]; simp
    cases o with
    | nx ds2 => exact ih _ ds2 e2 h2
    | ct ds2 => exact ih _ ds2 e2 h2
    | bk ds2 => exact h2
    | rt d ds2 => exact h2
@[simp ↓] theorem ok_Lc {ws : List Nat} : @Ok _ (mLc mi ga t m ws ds) ⟨Q⟩ = @Ok _ (mi ds) ⟨fun p => @Req (p.1.length ≤ 1000000) ⟨fun _ => @Ok _ (lcL ga t m ws p.1 (wipeD p.2 ws)) ⟨fun q => Q (.lst .own q.1, q.2)⟩⟩⟩ := by
  unfold mLc
  rcases mi ds with _ | ⟨d, ds1⟩
  · simp only [ok_none]
  simp only [ok_some]
  split
  · rename_i h
    rw [eq_true h, req_true]
    rcases lcL ga t m ws d (wipeD ds1 ws) with _ | ⟨es, ds2⟩ <;> simp only [ok_none, ok_some]
  · rename_i h; rw [eq_false h, req_false, ok_none]
@[simp ↓] theorem ok_lcN {ws : List Nat} : @Ok _ (lcL ga t m ws [] ds) ⟨QA⟩ = QA ([], ds) := ok_some
/-! targets -/
@[simp ↓] theorem ok_gNm {d : D} : @Ok _ (gNm i d ds) ⟨QG⟩ = @Req (i < ds.length) ⟨fun _ => QG (ds.set i (some d))⟩ := ok_setSlot
@[simp ↓] theorem ok_gNl : @Ok _ (gNl [] ds) ⟨QG⟩ = QG ds := ok_some
@[simp ↓] theorem ok_gCs {r : MGs} {d : D} {es : List D} : @Ok _ (gCs ga r (d :: es) ds) ⟨QG⟩ = @Ok _ (ga d ds) ⟨fun ds1 => @Ok _ (r es ds1) ⟨QG⟩⟩ := by
  show @Ok _ (match ga d ds with | some ds1 => r es ds1 | none => none) ⟨QG⟩ = _
  rcases ga d ds with _ | ds1 <;> simp only [ok_none, ok_some]
@[simp ↓] theorem ok_gTu {r : MGs} {n : Nat} {es : List D} : @Ok _ (gTu n r (.tup es) ds) ⟨QG⟩ = @Req (es.length = n) ⟨fun _ => @Ok _ (r es ds) ⟨QG⟩⟩ := by
  show @Ok _ (if es.length = n then r es ds else none) ⟨QG⟩ = _
  split
  · rename_i h; rw [eq_true h, req_true]
  · rename_i h; rw [eq_false h, req_false, ok_none]
@[simp ↓] theorem ok_AsgT : @Ok _ (mAsgT ga m ds) ⟨QS⟩ = @Ok _ (m ds) ⟨fun p => @Req (clean p.1 = true) ⟨fun _ => @Ok _ (ga p.1 p.2) ⟨fun ds2 => QS (.nx ds2)⟩⟩⟩ := by
  unfold mAsgT
  rcases m ds with _ | ⟨d, ds1⟩
  · simp only [ok_none]
  simp only [ok_some]
  split
  · rename_i h; rw [eq_true h, req_true]; rcases ga d ds1 with _ | ds2 <;> simp only [ok_none, ok_some]
  · rename_i h; rw [eq_false h, req_false, ok_none]
def twoB (R : D → D → DS → Prop) : List D × DS → Prop
  | ([d, e], ds) => R d e ds
  | _ => False
@[simp] theorem twoB_1 {d e : D} {R : D → D → DS → Prop} : twoB R ([d, e], ds) = R d e ds := nrfl
@[simp ↓] theorem ok_Par : @Ok _ (mPar i j mr ds) ⟨QS⟩ = @Ok _ (mr ds) ⟨(twoB fun d e ds1 => @Req (i < ds1.length) ⟨fun _ => @Req (j < (ds1.set i (some d)).length) ⟨fun _ => QS (.nx ((ds1.set i (some d)).set j (some e)))⟩⟩)⟩ := by
  unfold mPar
  rcases mr ds with _ | ⟨es, ds1⟩
  · simp only [ok_none]
  match es with
  | [] => simp only [ok_some, ok_none, twoB]
  | [d] => simp only [ok_some, ok_none, twoB]
  | [d, e] =>
    simp only [ok_some, twoB]
    by_cases h : i < ds1.length
    · have : setSlot i d ds1 = some (ds1.set i (some d)) := if_pos h
      rw [this, eq_true h, req_true]
      simp only
      by_cases h2 : j < (ds1.set i (some d)).length
      · have : setSlot j e (ds1.set i (some d)) = some ((ds1.set i (some d)).set j (some e)) := if_pos h2
        rw [this, eq_true h2, req_true, ok_some]
      · have : setSlot j e (ds1.set i (some d)) = none := if_neg h2
        rw [this, eq_false h2, req_false, ok_none]
    · have : setSlot i d ds1 = none := if_neg h
      rw [this, eq_false h, req_false, ok_none]
  | d :: e :: u :: r => simp only [ok_some, ok_none, twoB]
def lstB (R : O → List D → Prop) : D → Prop
  | .lst o es => R o es
  | _ => False
@[simp] theorem lstB_1 {o : O} {es : List D} {R : O → List D → Prop} : lstB R (.lst o es) = R o es := nrfl
def lsB (R : O → List D → DS → Prop) : D × DS → Prop
  | (.lst o es, ds) => R o es ds
  | _ => False
@[simp] theorem lsB_1 {o : O} {es : List D} {R : O → List D → DS → Prop} : lsB R (.lst o es, ds) = R o es ds := nrfl
@[simp ↓] theorem ok_Append : @Ok _ (mAppend i m ds) ⟨QS⟩ = @Ok _ ds[i]? ⟨fun o => @Ok _ o ⟨(lstB fun _ _ => @Ok _ (m ds) ⟨fun p => @Ok _ p.2[i]? ⟨fun o => @Ok _ o ⟨(ownB fun es => @Req (es.length < 10000000) ⟨fun _ => QS (.nx (p.2.set i (some (.lst .own (es ++ [p.1])))))⟩)⟩⟩⟩)⟩⟩ := by
  unfold mAppend
  rcases ds[i]? with _ | _ | d0
  · simp only [ok_none]
  · simp only [ok_none, ok_some]
  cases d0 with
  | lst o0 es0 =>
    simp only [ok_some, lstB]
    rcases m ds with _ | ⟨d, ds1⟩
    · simp only [ok_none]
    simp only [ok_some]
    rcases ds1[i]? with _ | _ | d0
    · simp only [ok_none]
    · simp only [ok_none, ok_some]
    cases d0 with
    | lst o es =>
      cases o with
      | own =>
        simp only [ok_some, ownB]
        split
        · rename_i h; rw [eq_true h, req_true, ok_some]
        · rename_i h; rw [eq_false h, req_false, ok_none]
      | _ => simp only [ok_none, ok_some, ownB]
    | _ => simp only [ok_none, ok_some, ownB]
  | _ => simp only [ok_none, ok_some, lstB]
@[simp ↓] theorem ok_Extend : @Ok _ (mExtend i m ds) ⟨QS⟩ = @Ok _ ds[i]? ⟨fun o => @Ok _ o ⟨(lstB fun _ _ => @Ok _ (m ds) ⟨(lsB fun o2 zs ds1 => @Ok _ ds1[i]? ⟨fun o => @Ok _ o ⟨(ownB fun es => @Req (o2 ≠ .ext) ⟨fun _ => @Req (es.length + zs.length < 10000000) ⟨fun _ => QS (.nx (ds1.set i (some (.lst .own (es ++ zs)))))⟩⟩)⟩⟩)⟩)⟩⟩ := by
  unfold mExtend
  rcases ds[i]? with _ | _ | d0
  · simp only [ok_none]
  · simp only [ok_none, ok_some]
  cases d0 with
  | lst o0 es0 =>
    simp only [ok_some, lstB]
    rcases m ds with _ | ⟨d, ds1⟩
    · simp only [ok_none]
    cases d with
    | lst o2 zs =>
      simp only [ok_some, lsB]
      rcases ds1[i]? with _ | _ | d0
      · simp only [ok_none]
      · simp only [ok_none, ok_some]
      cases d0 with
      | lst o es =>
        cases o with
        | own =>
          simp only [ok_some, ownB]
          by_cases h : o2 ≠ .ext
          · have hr : ∀ A : Unit → Prop, @Req (o2 ≠ .ext) ⟨A⟩ = A () := fun A => by rw [eq_true h, req_true]
            rw [hr]
            by_cases h2 : es.length + zs.length < 10000000
            · rw [if_pos ⟨h, h2⟩, eq_true h2, req_true, ok_some]
            · rw [if_neg (fun z => h2 z.2), eq_false h2, req_false, ok_none]
          · rw [if_neg (fun z => h z.1)]; have hr : ∀ A : Unit → Prop, @Req (o2 ≠ .ext) ⟨A⟩ = False := fun A => by rw [eq_false h, req_false]
            rw [hr, ok_none]
        | _ => simp only [ok_none, ok_some, ownB]
      | _ => simp only [ok_none, ok_some, ownB]
    | _ => simp only [ok_none, ok_some, lsB]
  | _ => simp only [ok_none, ok_some, lstB]
@[simp ↓] theorem ok_Pop : @Ok _ (mPop i ds) ⟨Q⟩ = @Ok _ ds[i]? ⟨fun o => @Ok _ o ⟨(ownB fun es => @Ok _ es[es.length - 1]? ⟨fun d => Q (d, ds.set i (some (.lst .own es.dropLast)))⟩)⟩⟩ := by
  unfold mPop
  rcases ds[i]? with _ | _ | d0
  · simp only [ok_none]
  · simp only [ok_none, ok_some]
  cases d0 with
  | lst o es =>
    cases o with
    | own =>
      simp only [ok_some, ownB]
      rcases es[es.length - 1]? with _ | d <;> simp only [ok_none, ok_some]
    | _ => simp only [ok_none, ok_some, ownB]
  | _ => simp only [ok_none, ok_some, ownB]
@[simp ↓] theorem ok_Clear : @Ok _ (mClear i ds) ⟨QS⟩ = @Ok _ ds[i]? ⟨fun o => @Ok _ o ⟨(ownB fun _ => QS (.nx (ds.set i (some (.lst .own [])))))⟩⟩ := by
  unfold mClear
  rcases ds[i]? with _ | _ | d0
  · simp only [ok_none]
  · simp only [ok_none, ok_some]
  cases d0 with
  | lst o es => cases o <;> simp only [ok_none, ok_some, ownB]
  | _ => simp only [ok_none, ok_some, ownB]
@[simp ↓] theorem ok_IsN {c : Bool} : @Ok _ (mIsN c m ds) ⟨Q⟩ = @Ok _ (m ds) ⟨fun p => Q (.v (.bl (if c then isN p.1 else !isN p.1)), p.2)⟩ := by
  unfold mIsN
  rcases m ds with _ | ⟨d, ds1⟩ <;> simp only [ok_none, ok_some]
@[simp ↓] theorem ok_IsNV {c : Bool} : @Ok _ (mIsNV c i ds) ⟨Q⟩ = @Ok _ ds[i]? ⟨fun o => @Ok _ o ⟨fun d => Q (.v (.bl (if c then isN d else !isN d)), ds)⟩⟩ := by
  unfold mIsNV
  rcases ds[i]? with _ | _ | d0 <;> simp only [ok_none, ok_some]
@[simp ↓] theorem ok_Chn {p p' : Int → Int → Bool} : @Ok _ (mChn p p' ma mb mc ds) ⟨Q⟩ = @Ok _ (ma ds) ⟨(inB fun u ds1 => @Ok _ (mb ds1) ⟨(inB fun v ds2 => @Br (p u v = true) ⟨(fun _ => @Ok _ (mc ds2) ⟨(inB fun w ds3 => Q (.v (.bl (p' v w)), ds3))⟩)⟩ ⟨fun _ => Q (.v (.bl false), ds2)⟩)⟩)⟩ := by
  unfold mChn
  rcases ma ds with _ | ⟨d, ds1⟩
  · simp only [ok_none]
  cases d with
  | v x => cases x with
    | int u =>
      simp only [ok_some, inB]
      rcases mb ds1 with _ | ⟨d, ds2⟩
      · simp only [ok_none]
      cases d with
      | v x => cases x with
        | int v =>
          simp only [ok_some, inB]
          cases p u v with
          | false => simp [br_false, ok_some]
          | true =>
            simp only [br_true, if_true]
            rcases mc ds2 with _ | ⟨d, ds3⟩
            · simp only [ok_none]
            cases d with
            | v x => cases x <;> simp only [ok_some, ok_none, inB]
            | _ => simp only [ok_some, ok_none, inB]
        | _ => simp only [ok_some, ok_none, inB]
      | _ => simp only [ok_some, ok_none, inB]
    | _ => simp only [ok_some, ok_none, inB]
  | _ => simp only [ok_some, ok_none, inB]
@[simp ↓] theorem ok_Rev : @Ok _ (mRev m ds) ⟨Q⟩ = @Ok _ (m ds) ⟨(lsB fun _ es ds1 => @Req (cleans es = true) ⟨fun _ => Q (.lst .own es.reverse, ds1)⟩)⟩ := by
  unfold mRev
  rcases m ds with _ | ⟨d, ds1⟩
  · simp only [ok_none]
  cases d with
  | lst o es =>
    simp only [ok_some, lsB]
    cases cleans es <;> simp [ok_none, ok_some, req_true, req_false]
  | _ => simp only [ok_some, ok_none, lsB]
@[simp ↓] theorem ok_oNo {R : Option Int × DS → Prop} : @Ok _ (oNo ds) ⟨R⟩ = R (none, ds) := ok_some
@[simp ↓] theorem ok_oYes {R : Option Int × DS → Prop} : @Ok _ (oYes m ds) ⟨R⟩ = @Ok _ (m ds) ⟨(inB fun k ds1 => R (some k, ds1))⟩ := by
  unfold oYes
  rcases m ds with _ | ⟨d, ds1⟩
  · simp only [ok_none]
  cases d with
  | v x => cases x <;> simp only [ok_some, ok_none, inB]
  | _ => simp only [ok_some, ok_none, inB]
@[simp ↓] theorem ok_Sl {lo hi : MO} : @Ok _ (mSl m lo hi ds) ⟨Q⟩ = @Ok _ (m ds) ⟨fun p => @Req (clean p.1 = true) ⟨fun _ => @Ok _ (lo p.2) ⟨fun u => @Ok _ (hi u.2) ⟨fun v => @Ok _ (dCut p.1 u.1 v.1) ⟨fun d => Q (d, v.2)⟩⟩⟩⟩⟩ := by
  unfold mSl
  rcases m ds with _ | ⟨d, ds1⟩
  · simp only [ok_none]
  simp only [ok_some]
  cases clean d with
  | false => simp [ok_none, req_false]
  | true =>
    simp only [req_true, if_true]
    rcases lo ds1 with _ | ⟨u, ds2⟩
    · simp only [ok_none]
    simp only [ok_some]
    rcases hi ds2 with _ | ⟨v, ds3⟩
    · simp only [ok_none]
    simp only [ok_some]
    rcases dCut d u v with _ | d' <;> simp only [ok_none, ok_some]
@[simp ↓] theorem ok_Frz : @Ok _ (mFrz m ds) ⟨Q⟩ = @Ok _ (m ds) ⟨fun p => @Req (clean (fz p.1) = true) ⟨fun _ => Q (fz p.1, p.2)⟩⟩ := by
  unfold mFrz
  rcases m ds with _ | ⟨d, ds1⟩
  · simp only [ok_none]
  simp only [ok_some]
  cases clean (fz d) <;> simp [ok_none, ok_some, req_true, req_false]
theorem ok_orFz_l (h : @Ok _ (m ds) ⟨Q⟩) : @Ok _ (orFz i m ds) ⟨Q⟩ := by
  obtain ⟨p, e, q⟩ := h
  exact ⟨p, by unfold orFz; rw [e], q⟩
theorem ok_orFz_c {d : D} (hi : ds[i]? = some (some d)) (hc : clean d = true) : @Ok _ (orFz i m ds) ⟨Q⟩ = @Ok _ (m ds) ⟨Q⟩ := by
  have e : fzAt i ds = ds := by
    unfold fzAt; rw [hi]; simp only
    rw [fz_clean hc, if_pos hc]
    apply List.ext_getElem?
    intro j
    rw [List.getElem?_set]
    split
    · rename_i h; subst h
      split
      · exact hi.symm
      · rename_i h; rw [List.getElem?_eq_none (by omega)]
    · rfl
  unfold orFz; rw [e]
  rcases m ds with _ | p <;> rfl
def okFz (i : Nat) (m : ME) (ds : DS) (o : Option (Option D)) [Q : K1 (D × DS)] : Prop := match o with
  | some (some d) => if clean d = true then @Ok _ (m ds) ⟨Q.run⟩ else @Ok _ (orFz i m ds) ⟨Q.run⟩
  | _ => @Ok _ (orFz i m ds) ⟨Q.run⟩
@[simp ↓] theorem ok_orFz : @Ok _ (orFz i m ds) ⟨Q⟩ = @okFz i m ds ds[i]? ⟨Q⟩ := by
  unfold okFz
  split
  · rename_i d hi
    split
    · rename_i hc; exact ok_orFz_c hi hc
    · rfl
  · rfl
def okFn (i : Nat) (m : ME) (ds : DS) [Q : K1 (D × DS)] : Prop := @Ok _ (orFz i m ds) ⟨Q.run⟩
theorem okFz_b {d : D} : @okFz i m ds (some (some d)) ⟨Q⟩ = @Br (clean d = true) ⟨(fun _ => @Ok _ (m ds) ⟨Q⟩)⟩ ⟨(fun _ => @okFn i m ds ⟨Q⟩)⟩ := by
  show (if clean d = true then _ else _) = _
  by_cases h : clean d = true
  · rw [if_pos h, eq_true h, br_true]
  · rw [if_neg h, eq_false h, br_false]; rfl
theorem okFn_l (h : @Ok _ (m ds) ⟨Q⟩) : @okFn i m ds ⟨Q⟩ := ok_orFz_l h
@[simp ↓] theorem ok_NewK : @Ok _ (mNewK ds) ⟨Q⟩ = Q (.dic .own [] [], ds) := ok_some
def dowB (R : List Key → List D → Prop) : D → Prop
  | .dic .own ks es => R ks es
  | _ => False
@[simp] theorem dowB_1 {ks : List Key} {es : List D} {R : List Key → List D → Prop} : dowB R (.dic .own ks es) = R ks es := nrfl
@[simp ↓] theorem ok_PutK : @Ok _ (mPutK i ma m ds) ⟨QS⟩ = @Ok _ (m ds) ⟨fun p => @Ok _ p.2[i]? ⟨fun o => @Ok _ o ⟨fun _ => @Ok _ (ma p.2) ⟨fun q => @Ok _ (dKey q.1) ⟨fun k => @Ok _ q.2[i]? ⟨fun o => @Ok _ o ⟨(dowB fun ks es => @Ok _ (putD ks es k p.1) ⟨fun u => @Req (ks.length < 10000000) ⟨fun _ => QS (.nx (q.2.set i (some (.dic .own u.1 u.2))))⟩⟩)⟩⟩⟩⟩⟩⟩⟩ := by
  unfold mPutK
  rcases m ds with _ | ⟨d, ds1⟩
  · simp only [ok_none]
  simp only [ok_some]
  rcases ds1[i]? with _ | _ | d0
  · simp only [ok_none]
  · simp only [ok_none, ok_some]
  simp only [ok_some]
  rcases ma ds1 with _ | ⟨e, ds2⟩
  · simp only [ok_none]
  simp only [ok_some]
  rcases dKey e with _ | k
  · simp only [ok_none]
  simp only [ok_some]
  rcases ds2[i]? with _ | _ | d0
  · simp only [ok_none]
  · simp only [ok_none, ok_some]
  cases d0 with
  | dic o ks es =>
    cases o with
    | own =>
      simp only [ok_some, dowB]
      rcases putD ks es k d with _ | ⟨u, v⟩
      · simp only [ok_none]
      simp only [ok_some]
      split
      · rename_i h; rw [eq_true h, req_true, ok_some]
      · rename_i h; rw [eq_false h, req_false, ok_none]
    | _ => simp only [ok_none, ok_some, dowB]
  | _ => simp only [ok_none, ok_some, dowB]
theorem setS_ok {d : D} : @Ok _ (setSlot i d ds) ⟨QG⟩ = @Req (i < ds.length) ⟨fun _ => QG (ds.set i (some d))⟩ := by
  unfold setSlot
  split
  · rename_i h; rw [eq_true h, req_true, ok_some]
  · rename_i h; rw [eq_false h, req_false, ok_none]
@[simp ↓] theorem ok_Set {d : D} : @Ok _ (setSlot i d ds) ⟨QG⟩ = @Req (i < ds.length) ⟨fun _ => QG (ds.set i (some d))⟩ := setS_ok
@[simp] theorem isDic_n {o : O} {ks : List NestedKey} {es : List D} : isDic (some (some (.din o ks es))) = false := nrfl
@[simp ↓] theorem ok_Enum : @Ok _ (mEnum mr ds) ⟨QA⟩ = @Ok _ (mr ds) ⟨fun p => @Req ((match p.1 with | [.lst _ es] => cleans (fzs es) | _ => false) = true) ⟨fun _ => QA (match p.1 with | [.lst _ es] => enumD 0 (fzs es) | _ => [], p.2)⟩⟩ := by
  unfold mEnum
  rcases mr ds with _ | ⟨es, ds1⟩
  · simp only [ok_none]
  match es with
  | [.lst o es] => simp only [ok_some]; cases cleans (fzs es) <;> simp [ok_none, ok_some, req_true, req_false]
  | [] => simp [ok_none, ok_some, req_false]
  | [.v _] | [.tup _] | [.ktp _] | [.dic _ _ _] | [.dit _ _ _] | [.din _ _ _] | [.ins _ _ _ _] | [.hol] => simp [ok_none, ok_some, req_false]
  | x :: y :: r => simp [ok_none, ok_some, req_false]
@[simp ↓] theorem ok_Mt {h : Str → List D → Option D} : @Ok _ (mMt h m mr ds) ⟨Q⟩ = @Ok _ (m ds) ⟨fun p => @Req ((match p.1 with | .v (.str _) => true | _ => false) = true) ⟨fun _ => @Ok _ (mr p.2) ⟨fun q => @Ok _ (match p.1 with | .v (.str a) => h a q.1 | _ => none) ⟨fun d => Q (d, q.2)⟩⟩⟩⟩ := by
  unfold mMt
  rcases m ds with _ | ⟨d, ds1⟩
  · simp only [ok_none]
  cases d with
  | v x => cases x with
    | str a =>
      simp only [ok_some, req_true]
      rcases mr ds1 with _ | ⟨es, ds2⟩
      · simp only [ok_none]
      simp only [ok_some]
      rcases h a es with _ | d <;> simp only [ok_none, ok_some]
    | _ => simp [ok_none, ok_some, req_false]
  | _ => simp [ok_none, ok_some, req_false]
section
variable {es : List D} {N : DS → Prop} {t' : Nat}
end
section
variable {es : List D} {N : DS → Prop} {t' : Nat}
@[simp ↓] theorem ok_putF : @Ok _ (putF i t' es j ds) ⟨QG⟩ = @Ok _ ds[t']? ⟨fun o => @Ok _ o ⟨fun e => @Req (i < ds.length) ⟨fun _ => QG ((ds.set t' none).set i (some (.lst .fro (es.set j e))))⟩⟩⟩ := by
  unfold putF
  rcases ds[t']? with _ | _ | e
  · simp only [ok_none]
  · simp only [ok_none, ok_some]
  simp only [ok_some]
  split
  · rename_i h; rw [eq_true h, req_true, ok_some]
  · rename_i h; rw [eq_false h, req_false, ok_none]
end
/-! while, by a measure that falls -/
theorem ok_whI (I : Nat → DS → Prop) (hs : ∀ n ds, I n ds → @Ok _ (t ds) ⟨fun p => @Br (p.1 = true) ⟨(fun _ => @Ok _ (b p.2) ⟨(turnB QS fun ds2 => @Leaf _ ds2 ⟨(fun ds2 => ∃ k, k < n ∧ I k ds2)⟩)⟩)⟩ ⟨fun _ => QS (.nx p.2)⟩⟩) :
    ∀ (N n : Nat) ds, I n ds → n < N → @Ok _ (whL t b N ds) ⟨QS⟩ := by
  intro N
  induction N with
  | zero => intro n ds _ h; omega
  | succ N ih =>
    intro n ds h hn
    have h1 := hs n ds h
    rw [whL]
    rcases ht : t ds with _ | ⟨c, ds1⟩
    · rw [ht] at h1; rw [ok_none] at h1; exact h1.elim
    rw [ht, ok_some] at h1
    cases c with
    | false => simp only [ok_some]; exact h1.2 (by simp)
    | true =>
      have h2 := h1.1 rfl
      simp only at h2 ⊢
      rcases hb : b ds1 with _ | o
      · rw [hb, ok_none] at h2; exact h2.elim
      rw [hb, ok_some] at h2
      cases o with
      | nx ds2 => obtain ⟨k, hk, hI⟩ := h2; exact ih k ds2 hI (by omega)
      | ct ds2 => obtain ⟨k, hk, hI⟩ := h2; exact ih k ds2 hI (by omega)
      | bk ds2 => simp only [ok_some]; exact h2
      | rt d ds2 => simp only [ok_some]; exact h2
theorem ok_While (I : Nat → DS → Prop) (n : Nat) (h0 : I n ds) (hn : n < 1000000000)
    (hs : ∀ n ds, I n ds → @Ok _ (t ds) ⟨fun p => @Br (p.1 = true) ⟨(fun _ => @Ok _ (b p.2) ⟨(turnB QS fun ds2 => @Leaf _ ds2 ⟨(fun ds2 => ∃ k, k < n ∧ I k ds2)⟩)⟩)⟩ ⟨fun _ => QS (.nx p.2)⟩⟩) : @Ok _ (mWhile t b ds) ⟨QS⟩ := ok_whI I hs 1000000000 n ds h0 hn
end
theorem dAdd_lst {o o2 : O} {xs ys : List D} (h : o ≠ .ext) (h2 : o2 ≠ .ext) (h3 : xs.length + ys.length ≤ 16777216) : dAdd (.lst o xs) (.lst o2 ys) = some (.lst .own (xs ++ ys)) := if_pos ⟨h, h2, h3⟩
theorem dAdd_tp {xs ys : List D} (h : xs.length + ys.length ≤ 16777216) : dAdd (.tup xs) (.tup ys) = some (.tup (xs ++ ys)) := if_pos h
/-! ### isinstance -/
theorem isi_bool_bool {b : Bool} : dIsi [.v (.bl b), .v (.ty "bool")] = some (.v (.bl true)) := by
  simp only [dIsi, tyOf]
  have : kitB "bool" "bool" = some true := by decide +kernel
  rw [this]; rfl
theorem isi_bool_int {b : Bool} : dIsi [.v (.bl b), .v (.ty "int")] = some (.v (.bl true)) := by
  simp only [dIsi, tyOf]
  have : kitB "bool" "int" = some true := by decide +kernel
  rw [this]; rfl
theorem isi_bool_str {b : Bool} : dIsi [.v (.bl b), .v (.ty "str")] = some (.v (.bl false)) := by
  simp only [dIsi, tyOf]
  have : kitB "bool" "str" = some false := by decide +kernel
  rw [this]; rfl
theorem isi_bool_tuple {b : Bool} : dIsi [.v (.bl b), .v (.ty "tuple")] = some (.v (.bl false)) := by
  simp only [dIsi, tyOf]
  have : kitB "bool" "tuple" = some false := by decide +kernel
  rw [this]; rfl
theorem isi_bool_list {b : Bool} : dIsi [.v (.bl b), .v (.ty "list")] = some (.v (.bl false)) := by
  simp only [dIsi, tyOf]
  have : kitB "bool" "list" = some false := by decide +kernel
  rw [this]; rfl
theorem isi_int_bool {i : Int} : dIsi [.v (.int i), .v (.ty "bool")] = some (.v (.bl false)) := by
  simp only [dIsi, tyOf]
  have : kitB "int" "bool" = some false := by decide +kernel
  rw [this]; rfl
theorem isi_int_int {i : Int} : dIsi [.v (.int i), .v (.ty "int")] = some (.v (.bl true)) := by
  simp only [dIsi, tyOf]
  have : kitB "int" "int" = some true := by decide +kernel
  rw [this]; rfl
theorem isi_int_str {i : Int} : dIsi [.v (.int i), .v (.ty "str")] = some (.v (.bl false)) := by
  simp only [dIsi, tyOf]
  have : kitB "int" "str" = some false := by decide +kernel
  rw [this]; rfl
theorem isi_int_tuple {i : Int} : dIsi [.v (.int i), .v (.ty "tuple")] = some (.v (.bl false)) := by
  simp only [dIsi, tyOf]
  have : kitB "int" "tuple" = some false := by decide +kernel
  rw [this]; rfl
theorem isi_int_list {i : Int} : dIsi [.v (.int i), .v (.ty "list")] = some (.v (.bl false)) := by
  simp only [dIsi, tyOf]
  have : kitB "int" "list" = some false := by decide +kernel
  rw [this]; rfl
theorem isi_str_bool {s : Str} : dIsi [.v (.str s), .v (.ty "bool")] = some (.v (.bl false)) := by
  simp only [dIsi, tyOf]
  have : kitB "str" "bool" = some false := by decide +kernel
  rw [this]; rfl
theorem isi_str_int {s : Str} : dIsi [.v (.str s), .v (.ty "int")] = some (.v (.bl false)) := by
  simp only [dIsi, tyOf]
  have : kitB "str" "int" = some false := by decide +kernel
  rw [this]; rfl
theorem isi_str_str {s : Str} : dIsi [.v (.str s), .v (.ty "str")] = some (.v (.bl true)) := by
  simp only [dIsi, tyOf]
  have : kitB "str" "str" = some true := by decide +kernel
  rw [this]; rfl
theorem isi_str_tuple {s : Str} : dIsi [.v (.str s), .v (.ty "tuple")] = some (.v (.bl false)) := by
  simp only [dIsi, tyOf]
  have : kitB "str" "tuple" = some false := by decide +kernel
  rw [this]; rfl
theorem isi_str_list {s : Str} : dIsi [.v (.str s), .v (.ty "list")] = some (.v (.bl false)) := by
  simp only [dIsi, tyOf]
  have : kitB "str" "list" = some false := by decide +kernel
  rw [this]; rfl
theorem isi_tuple_bool {es : List D} : dIsi [.tup es, .v (.ty "bool")] = some (.v (.bl false)) := by
  simp only [dIsi, tyOf]
  have : kitB "tuple" "bool" = some false := by decide +kernel
  rw [this]; rfl
theorem isi_tuple_int {es : List D} : dIsi [.tup es, .v (.ty "int")] = some (.v (.bl false)) := by
  simp only [dIsi, tyOf]
  have : kitB "tuple" "int" = some false := by decide +kernel
  rw [this]; rfl
theorem isi_tuple_str {es : List D} : dIsi [.tup es, .v (.ty "str")] = some (.v (.bl false)) := by
  simp only [dIsi, tyOf]
  have : kitB "tuple" "str" = some false := by decide +kernel
  rw [this]; rfl
theorem isi_tuple_tuple {es : List D} : dIsi [.tup es, .v (.ty "tuple")] = some (.v (.bl true)) := by
  simp only [dIsi, tyOf]
  have : kitB "tuple" "tuple" = some true := by decide +kernel
  rw [this]; rfl
theorem isi_tuple_list {es : List D} : dIsi [.tup es, .v (.ty "list")] = some (.v (.bl false)) := by
  simp only [dIsi, tyOf]
  have : kitB "tuple" "list" = some false := by decide +kernel
  rw [this]; rfl
theorem isi_list_bool {o : O} {es : List D} : dIsi [.lst o es, .v (.ty "bool")] = some (.v (.bl false)) := by
  simp only [dIsi, tyOf]
  have : kitB "list" "bool" = some false := by decide +kernel
  rw [this]; rfl
theorem isi_list_int {o : O} {es : List D} : dIsi [.lst o es, .v (.ty "int")] = some (.v (.bl false)) := by
  simp only [dIsi, tyOf]
  have : kitB "list" "int" = some false := by decide +kernel
  rw [this]; rfl
theorem isi_list_str {o : O} {es : List D} : dIsi [.lst o es, .v (.ty "str")] = some (.v (.bl false)) := by
  simp only [dIsi, tyOf]
  have : kitB "list" "str" = some false := by decide +kernel
  rw [this]; rfl
theorem isi_list_tuple {o : O} {es : List D} : dIsi [.lst o es, .v (.ty "tuple")] = some (.v (.bl false)) := by
  simp only [dIsi, tyOf]
  have : kitB "list" "tuple" = some false := by decide +kernel
  rw [this]; rfl
theorem isi_list_list {o : O} {es : List D} : dIsi [.lst o es, .v (.ty "list")] = some (.v (.bl true)) := by
  simp only [dIsi, tyOf]
  have : kitB "list" "list" = some true := by decide +kernel
  rw [this]; rfl
theorem isi_nonetype_bool  : dIsi [.v .non, .v (.ty "bool")] = some (.v (.bl false)) := by
  simp only [dIsi, tyOf]
  have : kitB "NoneType" "bool" = some false := by decide +kernel
  rw [this]; rfl
theorem isi_nonetype_int  : dIsi [.v .non, .v (.ty "int")] = some (.v (.bl false)) := by
  simp only [dIsi, tyOf]
  have : kitB "NoneType" "int" = some false := by decide +kernel
  rw [this]; rfl
theorem isi_nonetype_str  : dIsi [.v .non, .v (.ty "str")] = some (.v (.bl false)) := by
  simp only [dIsi, tyOf]
  have : kitB "NoneType" "str" = some false := by decide +kernel
  rw [this]; rfl
theorem isi_nonetype_tuple  : dIsi [.v .non, .v (.ty "tuple")] = some (.v (.bl false)) := by
  simp only [dIsi, tyOf]
  have : kitB "NoneType" "tuple" = some false := by decide +kernel
  rw [this]; rfl
theorem isi_nonetype_list  : dIsi [.v .non, .v (.ty "list")] = some (.v (.bl false)) := by
  simp only [dIsi, tyOf]
  have : kitB "NoneType" "list" = some false := by decide +kernel
  rw [this]; rfl
/-! ### what equals itself -/
theorem lays_mem {n : Nat} : ∀ {ds : List D}, (∀ d ∈ ds, lay n d = true) → lays n ds = true
  | [], _ => rfl
  | d :: ds, h => by
    have h1 := h d List.mem_cons_self
    have h2 := lays_mem fun e he => h e (List.mem_cons_of_mem d he)
    simp only [lays, h1, h2, Bool.and_self]
theorem dEqB_nil {n : Nat} {o o2 : O} {ds : List D} (h : lays n ds = true) (hn : n ≤ 60) : dEqB (.lst o ds) (.lst o2 []) = some ds.isEmpty := by
  obtain ⟨ps, a, b, c⟩ := lays_ok n ds h
  have e1 : py (.lst o ds) = some (.list ps) := by simp [py, a]
  have e2 : py (.lst o2 []) = some (.list []) := rfl
  have s1 : SeqAt.shaped (.list ps) = true := by
    unfold SeqAt.shaped
    rw [Bool.and_eq_true]
    exact ⟨by simpa [PyData.canLay0] using b, decide_eq_true (by simp only [PyData.depth]; omega)⟩
  have s2 : SeqAt.shaped (.list []) = true := by decide
  have e3 : PyData.eqv (.list ps) (.list []) = ds.isEmpty := by
    cases ds with
    | nil => simp only [pys] at a; cases a; rfl
    | cons d ds =>
      cases ps with
      | nil => rw [pys] at a; split at a <;> cases a
      | cons p ps => rfl
  show (match py (.lst o ds), py (.lst o2 []) with
    | some p, some q => if SeqAt.shaped p && SeqAt.shaped q then some (PyData.eqv p q) else none
    | _, _ => none) = _
  rw [e1, e2]
  simp only [s1, s2, Bool.and_self, if_true, e3]
theorem dEq_nil {n : Nat} {o o2 : O} {ds : List D} (h : lays n ds = true) (hn : n ≤ 60) : dEq (.lst o ds) (.lst o2 []) = some (.v (.bl ds.isEmpty)) := by unfold dEq; rw [dEqB_nil h hn]; rfl
theorem dNe_nil {n : Nat} {o o2 : O} {ds : List D} (h : lays n ds = true) (hn : n ≤ 60) : dNe (.lst o ds) (.lst o2 []) = some (.v (.bl (!ds.isEmpty))) := by unfold dNe; rw [dEqB_nil h hn]; rfl
/-! a list of a name's own value and others -/
section
variable {a b : MS} {m m2 mk : ME} {mo : MO} {ds : DS} {i t l y u : Nat} {Q : D × DS → Prop} {QS : Out → Prop} {QL : List D × DS → Prop} {QO : List (Option D) × DS → Prop}
theorem req_t {c : Prop} {A : Unit → Prop} (h : c) : @Req c ⟨A⟩ = A () := propext ⟨fun x => x.2, fun x => ⟨h, x⟩⟩
theorem req_f {c : Prop} {A : Unit → Prop} (h : ¬ c) : @Req c ⟨A⟩ = False := propext ⟨fun x => h x.1, fun x => x.elim⟩
theorem isi_T {T : String} {d : D} : dIsiT T [d] = dIsi [d, .v (.ty T)] := nrfl
/-! ### instances -/
def insOB (R : Str → List Str → List D → Prop) : D → Prop
  | .ins .own c ns es => R c ns es
  | _ => False
@[simp] theorem insOB_1 {c : Str} {ns : List Str} {es : List D} {R : Str → List Str → List D → Prop} : insOB R (.ins .own c ns es) = R c ns es := nrfl
@[simp] theorem idxS_nil {n : Str} : idxS [] n = none := nrfl
@[simp] theorem idxS_cons {m n : Str} {ns : List Str} : idxS (m :: ns) n = if m = n then some 0 else (idxS ns n).map (· + 1) := nrfl
@[simp] theorem fldD_1 {o : O} {c n : Str} {ns : List Str} {es : List D} : fldD n (.ins o c ns es) = (idxS ns n).bind fun j => es[j]? := by
  show (match idxS ns n with | some j => es[j]? | none => none) = _
  cases idxS ns n <;> rfl
@[simp] theorem insC_1 {o : O} {c c' : Str} {ns : List Str} {es : List D} : insC c (.ins o c' ns es) = decide (c' = c) := nrfl
@[simp] theorem insM_1 {o : O} {c c' m : Str} {ns : List Str} {es : List D} : insM c m (.ins o c' ns es) = (decide (c' = c) && (idxS ns m).isNone) := nrfl
@[simp] theorem setN_1 {n : Str} {ns : List Str} {es : List D} {d : D} : setN ns es n d = if (idxS ns n).isSome then (ns, es.set ((idxS ns n).getD 0) d) else (ns ++ [n], es ++ [d]) := by
  unfold setN; cases idxS ns n <;> simp
@[simp ↓] theorem ok_Fld {c n : Str} : @Ok _ (mFld i c n ds) ⟨Q⟩ = @Ok _ ds[i]? ⟨fun o => @Ok _ o ⟨fun d => @Ok _ (fldD n d) ⟨fun e => @Req (insC c d = true) ⟨fun _ => @Req (clean e = true) ⟨fun _ => Q (e, ds)⟩⟩⟩⟩⟩ := by
  unfold mFld
  rcases ds[i]? with _ | _ | d
  · simp only [ok_none]
  · simp only [ok_none, ok_some]
  simp only [ok_some]
  rcases fldD n d with _ | e
  · simp only [ok_none]
  simp only [ok_some]
  cases insC c d <;> cases clean e <;> simp [ok_none, ok_some, req_true, req_false]
@[simp ↓] theorem ok_SetF {c n : Str} : @Ok _ (mSetF i c n m ds) ⟨QS⟩ = @Ok _ (m ds) ⟨fun p => @Ok _ p.2[i]? ⟨fun o => @Ok _ o ⟨(insOB fun c' ns es => @Req (c' = c) ⟨fun _ => @Req (ns.length < 1000) ⟨fun _ => QS (.nx (p.2.set i (some (.ins .own c' (setN ns es n p.1).1 (setN ns es n p.1).2))))⟩⟩)⟩⟩⟩ := by
  unfold mSetF
  rcases m ds with _ | ⟨d, ds1⟩
  · simp only [ok_none]
  simp only [ok_some]
  rcases ds1[i]? with _ | _ | d0
  · simp only [ok_none]
  · simp only [ok_none, ok_some]
  simp only [ok_some]
  rcases d0 with _ | _ | _ | _ | _ | _ | _ | ⟨o, c', ns, es⟩ | _
  case ins =>
    cases o
    · simp only [insOB]
      by_cases h1 : c' = c <;> by_cases h2 : ns.length < 1000 <;> simp [h1, h2, ok_none, ok_some, req_true, req_false, req_t, req_f]
    · simp only [ok_none, insOB]
    · simp only [ok_none, insOB]
  all_goals simp only [ok_none, insOB]
@[simp ↓] theorem ok_Meth {c n : Str} {F : List D → Option (D × DS)} {args : List Arg} : @Ok _ (mMeth i c n F args ds) ⟨Q⟩ = @Ok _ ds[i]? ⟨fun o => @Ok _ o ⟨fun d => @Req (insM c n d = true) ⟨fun _ => @Ok _ (mCall F (.bo i :: args) ds) ⟨Q⟩⟩⟩⟩ := by
  unfold mMeth
  rcases ds[i]? with _ | _ | d
  · simp only [ok_none]
  · simp only [ok_none, ok_some]
  simp only [ok_some]
  cases insM c n d <;> simp [ok_none, req_true, req_false]
def makB (R : D → DS → Prop) : D × DS → Prop
  | (.v .non, some d :: os) => R d os
  | _ => False
@[simp] theorem makB_1 {d : D} {os : DS} {R : D → DS → Prop} : makB R (.v .non, some d :: os) = R d os := nrfl
@[simp ↓] theorem ok_Make {c : Str} {F : List D → Option (D × DS)} {args : List Arg} : @Ok _ (mMake c F args ds) ⟨Q⟩ = @Ok _ (mArgs args ds) ⟨fun p => @Ok _ (take p.1 p.2) ⟨fun q => @Ok _ (F (.ins .own c [] [] :: q.1)) ⟨(makB fun d os => Q (d, put p.1 q.1 os q.2))⟩⟩⟩ := by
  unfold mMake
  rcases mArgs args ds with _ | ⟨d, ds1⟩
  · simp only [ok_none]
  simp only [ok_some]
  rcases take d ds1 with _ | ⟨as, ds2⟩
  · simp only [ok_none]
  simp only [ok_some]
  rcases F (.ins .own c [] [] :: as) with _ | ⟨d, os⟩
  · simp only [ok_none]
  simp only [ok_some]
  rcases d with x | _ | _ | _ | _ | _ | _ | _ | _
  case v =>
    cases x <;> rcases os with _ | ⟨_ | _, _⟩ <;> simp only [ok_none, ok_some, makB]
  all_goals simp only [ok_none, makB]
/-! looking only -/
/-! for a, b in x, the second one owned -/
section
variable {es : List D} {N : DS → Prop} {t' u' : Nat} {L : D → D}
end
/-! x[k].append(e), x a dict of owned lists -/
section
end
end
end Z
namespace Z
open PySem PySem.Spec L2
section
variable {K : KW} {mg : Str → Option Value} {f f1 f2 g1 g2 : List Addr} {G H G1 H1 G2 H2 : Hp} {σ : L2.St} {ds ds1 ds2 : DS} {vs ws : List V} {es es2 : List D} {x y : V} {d e : D} {X : Cx} {Q : VK} {fx : Nat → Bool} {E : Ends}
section
variable {a b : Expr} {ma mb : ME} {nm : Str} {p pos : Pos}
end
/-! x.append(t); the rest: the item stays with t while the rest runs, and is put back -/
/-! x[k] of an own dict, taken out: a hole is left -/
/-! x[k] = v of an own dict, the value owned, too -/
section
variable {κ : Type} [DecidableEq κ]
end
/-! t = x[k][1]; the rest: the pair's second one is owned by t while the rest runs, and put back -/
end
end Z
namespace Z
open PySem L2
section
variable {α β : Type} {a : α} {x y : Option α} {P Q : α → Prop} {i t : Nat} {b : MS} {ds : DS} {QS : Out → Prop}
section
variable {m ma : ME} {i : Nat} {ds : DS} {QS : Out → Prop}
end
end
end Z
namespace Z
open PySem PySem.Spec L2
section
variable {K : KW} {mg : Str → Option Value} {f f1 f2 g1 g2 : List Addr} {G H G1 H1 G2 H2 : Hp} {σ : L2.St} {ds ds1 ds2 : DS} {vs ws : List V} {es es2 : List D} {x y : V} {d e : D} {X : Cx} {Q : VK} {fx : Nat → Bool} {E : Ends}
/-! ### the keys of a locked dict -/
/-! ### an expression that only looks, the dict of slot i locked while it runs -/
end
section
variable {i : Nat} {m : ME} {ds : DS}
end
end Z
namespace Z
open PySem PySem.Spec L2
/-! ### no datum of the slots is locked -/
mutual
def nX : D → Bool
  | .v _ => true
  | .hol => true
  | .tup es => nXs es
  | .ktp es => nXs es
  | .lst _ es => nXs es
  | .dic o _ es => decide (o ≠ .ext) && nXs es
  | .dit _ _ es => nXs es
  | .din _ _ es => nXs es
  | .ins _ _ _ es => nXs es
def nXs : List D → Bool
  | [] => true
  | d :: ds => nX d && nXs ds
end
def nXo : Option D → Bool
  | none => true
  | some d => nX d
def nXS (ds : DS) : Bool := ds.all nXo
section
variable {K : KW} {mg : Str → Option Value} {f f1 f2 g1 g2 : List Addr} {G H G1 H1 G2 H2 : Hp} {σ : L2.St} {ds ds1 ds2 : DS} {vs ws : List V} {es es2 : List D} {x y : V} {d e : D} {X : Cx} {Q : VK} {fx : Nat → Bool} {E : Ends}
section
variable {a : Addr} {od : Obj} {kvs : List (Key × V)}
theorem un_ne (hG : G a = some (.frz od (.dK kvs))) {b : Addr} {o : HO} (h : G b = some o) (n : o ≠ .frz od (.dK kvs)) : upd G a (.dK kvs) b = some o := by
  have : b ≠ a := fun z => by subst z; rw [hG] at h; cases h; exact n rfl
  rw [upd_ne this]; exact h
mutual
theorem NKV.un (hG : G a = some (.frz od (.dK kvs))) : ∀ {k : NestedKey} {v : V}, NKV G k v → NKV (upd G a (.dK kvs)) k v
  | _, _, .non => .non
  | _, _, .int i => .int i
  | _, _, .str s => .str s
  | _, _, .tup e t => .tup (un_ne hG e (by intro z; cases z)) (NKVs.un hG t)
theorem NKVs.un (hG : G a = some (.frz od (.dK kvs))) : ∀ {k : List NestedKey} {v : List V}, NKVs G k v → NKVs (upd G a (.dK kvs)) k v
  | _, _, .nil => .nil
  | _, _, .cons b c => .cons (NKV.un hG b) (NKVs.un hG c)
end
theorem sqT_un (hG : G a = some (.frz od (.dK kvs))) {b : Addr} {xs : List V} (h : SqT K G b xs) : SqT K (upd G a (.dK kvs)) b xs := by
  rcases h with (h | ⟨o, h⟩) | h
  · exact .inl (.inl (un_ne hG h (by intro z; cases z)))
  · exact .inl (.inr ⟨o, un_ne hG h (by intro z; cases z)⟩)
  · exact .inr h
theorem sqL_un (hG : G a = some (.frz od (.dK kvs))) {b : Addr} {xs : List V} (h : SqL K G b xs) : SqL K (upd G a (.dK kvs)) b xs := by
  rcases h with (h | ⟨o, h⟩) | h
  · exact .inl (.inl (un_ne hG h (by intro z; cases z)))
  · exact .inl (.inr ⟨o, un_ne hG h (by intro z; cases z)⟩)
  · exact .inr h
theorem un_h {b : Addr} {o : HO} (n : b ≠ a) (h : H b = some o) : upd H a (.dK kvs) b = some o := by rw [upd_ne n]; exact h
theorem un_n {b : Addr} (n : b ≠ a) (h : G b = none) : upd G a (.dK kvs) b = none := by rw [upd_ne n]; exact h
theorem Owns.un (hG : G a = some (.frz od (.dK kvs))) (h : Owns K mg G H vs es f) (c : nXs es = true) (n : a ∉ f) : Owns K mg (upd G a (.dK kvs)) (upd H a (.dK kvs)) vs es f := by
  induction h with
  | nil => exact .nil
  | v _ ih => exact .v (ih (by simpa [nXs, nX] using c) n)
  | hl _ ih => exact .hl (ih (by simpa [nXs, nX] using c) n)
  | tup e _ _ i1 i2 =>
    simp only [nXs, nX, Bool.and_eq_true] at c
    simp only [List.mem_append, not_or] at n
    exact .tup (un_ne hG e (by intro z; cases z)) (i1 c.1 n.1) (i2 c.2 n.2)
  | kt e _ _ i1 i2 =>
    simp only [nXs, nX, Bool.and_eq_true] at c
    simp only [List.mem_append, not_or] at n
    exact .kt (sqT_un hG e) (i1 c.1 n.1) (i2 c.2 n.2)
  | el e _ _ i1 i2 =>
    simp only [nXs, nX, Bool.and_eq_true] at c
    simp only [List.mem_append, not_or] at n
    exact .el (sqL_un hG e) (i1 c.1 n.1) (i2 c.2 n.2)
  | fl e _ _ i1 i2 =>
    simp only [nXs, nX, Bool.and_eq_true] at c
    simp only [List.mem_append, not_or] at n
    exact .fl (un_ne hG e (by intro z; cases z)) (i1 c.1 n.1) (i2 c.2 n.2)
  | ol e e2 _ _ i1 i2 =>
    simp only [nXs, nX, Bool.and_eq_true] at c
    simp only [List.mem_cons, List.mem_append, not_or] at n
    exact .ol (un_h (Ne.symm n.1) e) (un_n (Ne.symm n.1) e2) (i1 c.1 n.2.1) (i2 c.2 n.2.2)
  | fd e e2 _ _ i1 i2 =>
    simp only [nXs, nX, Bool.and_eq_true] at c
    simp only [List.mem_append, not_or] at n
    exact .fd (un_ne hG e (by intro z; cases z)) e2 (i1 c.1.2 n.1) (i2 c.2 n.2)
  | xd e e2 _ _ i1 i2 => simp [nXs, nX] at c
  | od e e1 e2 _ _ i1 i2 =>
    simp only [nXs, nX, Bool.and_eq_true] at c
    simp only [List.mem_cons, List.mem_append, not_or] at n
    exact .od (un_h (Ne.symm n.1) e) (un_n (Ne.symm n.1) e1) e2 (i1 c.1.2 n.2.1) (i2 c.2 n.2.2)
  | ft e e2 _ _ i1 i2 =>
    simp only [nXs, nX, Bool.and_eq_true] at c
    simp only [List.mem_append, not_or] at n
    exact .ft (un_ne hG e (by intro z; cases z)) e2 (i1 c.1 n.1) (i2 c.2 n.2)
  | ot e e1 e2 _ _ i1 i2 =>
    simp only [nXs, nX, Bool.and_eq_true] at c
    simp only [List.mem_cons, List.mem_append, not_or] at n
    exact .ot (un_h (Ne.symm n.1) e) (un_n (Ne.symm n.1) e1) e2 (i1 c.1 n.2.1) (i2 c.2 n.2.2)
  | fn e e2 _ _ i1 i2 =>
    simp only [nXs, nX, Bool.and_eq_true] at c
    simp only [List.mem_append, not_or] at n
    exact .fn (un_ne hG e (by intro z; cases z)) ⟨fun x hx => ⟨NKV.un hG (e2.1 x hx).1, (e2.1 x hx).2⟩, e2.2⟩ (i1 c.1 n.1) (i2 c.2 n.2)
  | on e e1 e2 _ _ i1 i2 =>
    simp only [nXs, nX, Bool.and_eq_true] at c
    simp only [List.mem_cons, List.mem_append, not_or] at n
    exact .on (un_h (Ne.symm n.1) e) (un_n (Ne.symm n.1) e1) ⟨fun x hx => ⟨NKV.un hG (e2.1 x hx).1, (e2.1 x hx).2⟩, e2.2⟩ (i1 c.1 n.2.1) (i2 c.2 n.2.2)
  | fi e e2 e3 _ _ i1 i2 =>
    simp only [nXs, nX, Bool.and_eq_true] at c
    simp only [List.mem_append, not_or] at n
    exact .fi (un_ne hG e (by intro z; cases z)) e2 e3 (i1 c.1 n.1) (i2 c.2 n.2)
  | oi e e1 e2 e3 _ _ i1 i2 =>
    simp only [nXs, nX, Bool.and_eq_true] at c
    simp only [List.mem_cons, List.mem_append, not_or] at n
    exact .oi (un_h (Ne.symm n.1) e) (un_n (Ne.symm n.1) e1) e2 e3 (i1 c.1 n.2.1) (i2 c.2 n.2.2)
theorem OwnS.un (hG : G a = some (.frz od (.dK kvs))) (h : OwnS K mg G H σ ds f) (c : nXS ds = true) (n : a ∉ f) : OwnS K mg (upd G a (.dK kvs)) (upd H a (.dK kvs)) σ ds f := by
  induction h with
  | nil => exact .nil
  | no _ ih => exact .no (ih (by simpa [nXS, nXo] using c) n)
  | yes h _ ih =>
    simp only [nXS, List.all_cons, Bool.and_eq_true] at c
    simp only [List.mem_append, not_or] at n
    exact .yes (h.un hG (by simpa [nXs, nXo] using c.1) n.1) (ih c.2 n.2)
end
end
section
variable {i : Nat} {b : MS} {ds : DS} {QS : Out → Prop}
end
end Z
namespace Z
open PySem PySem.Spec L2
section
variable {K : KW} {mg : Str → Option Value} {f f1 f2 g1 g2 : List Addr} {G H G1 H1 G2 H2 : Hp} {σ : L2.St} {ds ds1 ds2 : DS} {vs ws : List V} {es es2 : List D} {x y : V} {d e : D} {X : Cx} {Q : VK} {fx : Nat → Bool} {E : Ends}
/-! ### dicts compared whose values are lists and tuples, found alike -/
section
variable {a b : Expr} {ma mb : ME} {pos : Pos}
end
end
end Z
namespace L2
open PySem PySem.Spec PyProof.Rows
/-! ### d.pop(k) of a dict by nested tuples -/
section
variable {X : Cx} {pins : List (Addr × Obj)} {σ : St} {H : Hp} {s : Shared} {a b : Addr} {xs : List NX} {ep : Nat} {k : NestedKey} {A : Around} {E : Value → Shared → Prop}
end
section
variable {X : Cx} {o e : Expr} {td ty : TE} {apos cpos : Pos}
end
end L2
namespace Z
open PySem PySem.Spec PyProof.Rows L2
section
variable {κ : Type} [DecidableEq κ]
end
section
variable {K : KW} {mg : Str → Option Value} {f f1 f2 g1 g2 : List Addr} {G H G1 H1 G2 H2 : Hp} {σ : L2.St} {ds ds1 ds2 : DS} {vs ws : List V} {es es2 : List D} {x y : V} {d e : D} {X : Cx} {Q : VK} {fx : Nat → Bool} {E : Ends}
section
variable {κ : Type} [DecidableEq κ]
end
/-! list(d) of a dict by nested tuples that is only looked at -/
end
section
variable {i : Nat} {ds : DS} {mk : ME}
end
end Z
namespace Z
open PySem PySem.Spec PyProof.Rows L2
section
variable {K : KW} {mg : Str → Option Value} {f f1 f2 g1 g2 : List Addr} {G H G1 H1 G2 H2 : Hp} {σ : L2.St} {ds ds1 ds2 : DS} {vs ws : List V} {es es2 : List D} {x y : V} {d e : D} {X : Cx} {Q : VK} {fx : Nat → Bool} {E : Ends}
/-! ### x[j][l].append(n): a list in a tuple in a tuple -/
end
section
variable {i j l : Nat} {n : Int} {ds : DS} {QS : Out → Prop}
end
end Z
namespace Z
open PySem PySem.Spec L2
section
variable {X : Cx} {K : KW} {mg : Str → Option Value}
/-- a list of one number, told so many times -/
def dMulV : D → D → Option D
  | .lst o [.v x], .v (.int k) => if o ≠ .ext ∧ 0 ≤ k ∧ k ≤ 1000000 then some (.lst .own (List.replicate k.toNat (.v x))) else none
  | d, e => dMul d e
theorem Owns.rep_v {G H : Hp} (x : V) : ∀ n : Nat, Owns K mg G H (List.replicate n x) (List.replicate n (.v x)) []
  | 0 => .nil
  | n + 1 => by
    rw [List.replicate_succ, List.replicate_succ]
    exact .v (Owns.rep_v x n)
theorem opd_mulV : OpD K mg (fun x y H Q => ((rI CMul fun i j => .int (i * j)) x y H Q ∨ (rI CMulW fun i j => .int (i * j)) x y H Q) ∨ rRep x y H Q) dMulV := by
  intro G H x y d e d' f Q gh h n q k
  unfold dMulV at q
  split at q
  · split at q
    · rename_i o u j c
      cases q
      obtain ⟨f1, f2, rfl, h1, h2⟩ := h.two
      obtain ⟨rfl, rfl⟩ := h2.v_inv
      obtain ⟨a, xs, g1, rfl, e1, w1, s1, m1⟩ := h1.lstH_inv gh c.1
      obtain ⟨z, rfl⟩ : ∃ z, xs = [z] := by
        have := w1.length
        rcases xs with _ | ⟨z, _ | ⟨t, r⟩⟩
        · simp at this
        · exact ⟨z, rfl⟩
        · simp at this
      obtain ⟨rfl, _⟩ := w1.v_inv
      have hl : [z].length * j.toNat ≤ sizeLine := by
        have : (1000000 : Nat) ≤ sizeLine := by decide
        simp; omega
      refine .inr ⟨a, j, [z], rfl, rfl, e1, by omega, by omega, hl, fun p hp => k _ G _ ?_⟩
      have e : (List.replicate j.toNat [z]).flatten = List.replicate j.toNat z := by
        induction j.toNat with
        | zero => rfl
        | succ n ih => rw [List.replicate_succ, List.flatten_cons, ih]; rfl
      rw [e]
      exact VPst.newL gh (Owns.rep_v z _) (by simp) List.nodup_nil hp
    · cases q
  · exact .inl (opd_mul G H x y d e d' f Q gh h n q k)
theorem xe_mulV {a b : Expr} {pos : Pos} {ma mb : ME} (ha : XE X a ma) (hb : XE X b mb) : XE X (.BinOp a .Mult b pos) (mOp dMulV ma mb) := xe_op ((op_mul.or op_mulW).or op_rep) opd_mulV ha hb
end
end Z
namespace Z
open PySem PySem.Spec PyProof.Rows L2
section
variable {K : KW} {mg : Str → Option Value} {f f1 f2 g1 g2 : List Addr} {G H G1 H1 G2 H2 : Hp} {σ : L2.St} {ds ds1 ds2 : DS} {vs ws : List V} {es es2 : List D} {x y : V} {d e d0 : D} {X : Cx} {Q : VK} {fx : Nat → Bool} {E : Ends} {c n : Str} {ns : List Str} {i j : Nat}
/-! a raise that is never come to -/
theorem xs_none (s : Stmt) : XS X fx s fun _ => none := ⟨fun _ _ _ _ _ _ h => by obtain ⟨_, _, _, _, _, _, _, e, _⟩ := h; cases e⟩
/-! ### self.f[x]: a look in a dict by texts or ints that a field holds -/
/-! x in self.f, a dict by texts; x in self.f, a list -/
/-! ### len(self.f), list(self.f) -/
/-! ### self.f[k] = e, the field a dict by texts or ints -/
/-! ### self.f.append(e) -/
end
end Z
namespace Z
open PySem PySem.Spec PyProof.Rows L2
section
variable {K : KW} {mg : Str → Option Value} {f f1 f2 g1 g2 : List Addr} {G H G1 H1 G2 H2 : Hp} {σ : L2.St} {ds ds1 ds2 : DS} {vs ws : List V} {es es2 : List D} {x y : V} {d e d0 : D} {X : Cx} {Q : VK} {fx : Nat → Bool} {E : Ends} {c n : Str} {ns : List Str}
/-! ### F(x[m], a, b, y[m], z): an item of x and one of y handed over and put back -/
/-! ### e.m(a): the object a value that stays -/
end
end Z
namespace Z
open PySem L2
section
variable {α β : Type} {a : α} {x y : Option α} {P Q : D × DS → Prop} {i j t : Nat} {m ma : ME} {b : MS} {ds : DS} {QS : Out → Prop} {g : List D → Option D}
end
end Z
namespace Z
open PySem PySem.Spec PyProof.Rows L2
section
variable {K : KW} {mg : Str → Option Value} {f f1 f2 g1 g2 : List Addr} {G H G1 H1 G2 H2 : Hp} {σ : L2.St} {ds ds1 ds2 : DS} {vs ws : List V} {es es2 : List D} {x y : V} {d e : D} {X : Cx} {Q : VK} {fx : Nat → Bool} {E : Ends}
/-! ### a statement runs while a dict in the list of slot i is locked; behind it that item is a hole -/
end
end Z
namespace Z
open PySem PySem.Spec PyProof.Rows L2
section
variable {K : KW} {mg : Str → Option Value} {f f1 f2 g1 g2 : List Addr} {G H G1 H1 G2 H2 : Hp} {σ : L2.St} {ds ds1 ds2 : DS} {vs ws : List V} {es es2 : List D} {x y : V} {d e : D} {X : Cx} {Q : VK} {fx : Nat → Bool} {E : XK}
/-! ### errors of own classes: told as a return of a value that no code makes -/
def unX : V → Option Str
  | .str s => match s.cps.toList with
    | n :: r => if n = 2000000 then some ⟨r.toArray⟩ else none
    | [] => none
  | _ => none
def RtX (mg : Str → Option Value) (Q : VK) (E : XK) : VK := fun v H => match unX v with
  | none => Q v H
  | some c => ∃ C, mg c = some (.ref C) ∧ E (.ref C) none H
variable {st : Stmt} {rest sa sb : List Stmt} {a b m : MS} {pos : Pos} {ex : Expr} {me : ME} {t : MT}
/-- what the text says of an own class of error -/
structure ErrD (K : PySem.W.Frag) (mg : Str → Option Value) (c : Str) (C : Addr) : Prop where
  g : mg c = some (.ref C)
  x : PySem.W.excIn K C [.type "ValueError", .type "Exception", .type "BaseException", .type "object"] "ValueError.__new__" = true
  k : PySem.W.keepIn K (.ref C) = true
  b : PySem.W.subIn K (.ref C) (.type "BaseException") = some true
  t : PySem.W.typeIn K (.ref C) = some (.type "type")
/-! ### defs that may raise -/
def spX (K : KW) (mg : Str → Option Value) (np : Nat) (F : List D → Option (D × DS)) : Sp := fun vs H Q E => spF K mg np F vs H (RtX mg Q E) E
end
section
variable {P : Program} {w : World} {K : PySem.W.Frag} {mg : Str → Option Value} {base : Heap}
structure MethX (P : Program) (w : World) (K : PySem.W.Frag) (mg : Str → Option Value) (base : Heap) (k : Nat) (c m : Str) (np : Nat) (F : List D → Option (D × DS)) : Prop where
  ex : ∃ C f fd ps, mg c = some (.ref C) ∧ Cls K C ∧ Meth K C m f ∧ Binds K fd ps [] ∧ ps.length = np ∧ FnOk P w K mg base (L2.CX P w) k f fd ps (spX ⟨K, w⟩ mg np F)
end
/-! ### try: x.m(..), which raises, except E as e: t = the answers of isinstance -/
section
variable {X : Cx} {c m : Str}
end
section
variable {X : Cx} {K : KW} {mg : Str → Option Value} {G H : Hp} {f : List Addr} {fx : Nat → Bool}
end
/-! isinstance of the error that a suite holds -/
section
variable {X : Cx} {Cx a : Addr} {oe : Obj} {pn : List (Addr × Obj)} {ie it : Nat} {b b1 b2 : Bool}
variable {Y : L2.Cx} {e1 e2 : Expr} {rest : List Expr} {pos : Pos}
end
end Z
namespace Z
open PySem PySem.Spec PyProof.Rows L2
section
variable {K : KW} {mg : Str → Option Value} {f f1 f2 g1 g2 : List Addr} {G H G1 H1 G2 H2 : Hp} {σ : L2.St} {ds ds1 ds2 : DS} {vs ws : List V} {es es2 : List D} {x y : V} {d e : D} {X : Cx} {Q : VK} {fx : Nat → Bool} {i : Nat} {c n : Str}
/-! ### self.f.get(k), the field a dict by nested keys -/
end
section
variable {X : Cx} {o e : Expr} {apos cpos : Pos} {td ty : TE}
end
section
variable {K : KW} {mg : Str → Option Value} {G H : Hp} {f : List Addr} {σ : L2.St} {Q : VK} {X : Cx} {c n : Str} {i : Nat} {fx : Nat → Bool}
end
end Z
namespace Z
open PySem L2
section
variable {α β : Type} {a : α} {x y : Option α} {P Q : D × DS → Prop} {i j t : Nat} {m ma : ME} {b : MS} {ds : DS} {QS : Out → Prop} {g : List D → Option D}
end
end Z
namespace Z
open PySem PySem.Spec PyProof.Rows L2
section
variable {K : KW} {mg : Str → Option Value} {f f1 f2 g1 g2 : List Addr} {G H G1 H1 G2 H2 : Hp} {σ : L2.St} {ds ds1 ds2 : DS} {vs ws : List V} {es es2 : List D} {x y : V} {d e : D} {X : Cx} {Q : VK} {fx : Nat → Bool}
/-! ### a try whose body raises nothing -/
/-! ### a op b op c op d -/
variable {a b c dd : Expr} {ta tb tc td : TE} {pos : Pos}
variable {ma mb mc md : ME}
/-! ### x.split(sep) -/
end
end Z
namespace Z
open PySem PySem.Spec L2
section
variable {α β : Type} {a : α} {x y : Option α} {P Q : D × DS → Prop} {i j t : Nat} {m ma mb mc md : ME} {b : MS} {ds : DS} {QS : Out → Prop} {g : List D → Option D}
end
end Z
namespace Z
open PySem PySem.Spec PyProof.Rows L2
section
variable {K : KW} {mg : Str → Option Value} {f f1 f2 g1 g2 : List Addr} {G H G1 H1 G2 H2 : Hp} {σ : L2.St} {ds ds1 ds2 : DS} {vs ws : List V} {es es2 : List D} {x y : V} {d e : D} {X : Cx} {Q : VK} {fx : Nat → Bool} {E : XK}
/-! ### more of defs that may raise -/
variable {st : Stmt} {rest sa sb : List Stmt} {a b m : MS} {pos : Pos} {ex : Expr} {me : ME} {t : MT}
/-- f(..), f may raise -/
structure DefX (P : Program) (w : World) (K : PySem.W.Frag) (mg : Str → Option Value) (base : Heap) (k : Nat) (x : Str) (np : Nat) (F : List D → Option (D × DS)) : Prop where
  ex : ∃ f fd ps, mg x = some (.ref f) ∧ PySem.W.keepIn K (.ref f) = true ∧ Binds K fd ps [] ∧ ps.length = np ∧ FnOk P w K mg base (L2.CX P w) k f fd ps (spX ⟨K, w⟩ mg np F)
structure DefN (P : Program) (w : World) (K : PySem.W.Frag) (mg : Str → Option Value) (base : Heap) (k : Nat) (x : Str) (np : Nat) (F : List D → Option (D × DS)) : Prop where
  ex : ∃ f fd ps, mg x = some (.ref f) ∧ PySem.W.keepIn K (.ref f) = true ∧ Binds K fd ps [] ∧ ps.length = np ∧ FnOk P w K mg base (L2N.CX P w) k f fd ps (spX ⟨K, w⟩ mg np F)
/-! displays whose items may raise -/
/-! loops -/
end
end Z
namespace Z
open PySem PySem.Spec PyProof.Rows L2
section
variable {X : Cx} {E : XK} {fx : Nat → Bool} {pos : Pos}
end
section
variable {P : Program} {w : World} {K : PySem.W.Frag} {mg : Str → Option Value} {base : Heap}
end
section
variable {X : Cx} {C : Addr} {bmB : List Value} {B newId initId : String}
end
/-! ### try: return f(..) except A: raise B('..') from None -/
section
variable {X : Cx} {E : XK} {fx : Nat → Bool}
end
/-! ### try: x = f(..) except A: y = c -/
section
variable {X : Cx} {fx : Nat → Bool}
end
end Z
namespace Z
open PySem L2
section
variable {α β : Type} {a : α} {x y : Option α} {P Q : D × DS → Prop} {i j t : Nat} {m ma mb mc md : ME} {b : MS} {ds : DS} {QS : Out → Prop} {g : List D → Option D} {r : MA} {QA : List D × DS → Prop}
end
end Z
namespace Z
open PySem PySem.Spec PyProof.Rows L2
section
variable {K : KW} {mg : Str → Option Value} {f f1 f2 g1 g2 : List Addr} {G H G1 H1 G2 H2 : Hp} {σ : L2.St} {ds ds1 ds2 : DS} {vs ws : List V} {es es2 : List D} {x y : V} {d e : D} {X : Cx} {Q : VK} {fx : Nat → Bool}
/-! ### x.get(k), x a dict by texts, k a name -/
end
end Z
namespace Z
open PySem PySem.Spec PyProof.Rows L2
section
variable {K : KW} {mg : Str → Option Value} {f f1 f2 g1 g2 : List Addr} {G H G1 H1 G2 H2 : Hp} {σ : L2.St} {ds ds1 ds2 : DS} {vs ws : List V} {es es2 : List D} {x y : V} {d e : D} {X : Cx} {Q : VK} {fx : Nat → Bool} {E : Ends}
/-! ### for t in e: e tells a list of one's own, which nobody else has; its items are t's in turn -/
end
end Z
namespace Z
open PySem PySem.Spec PyProof.Rows L2
section
variable {K : KW} {mg : Str → Option Value} {f f1 f2 g1 g2 : List Addr} {G H G1 H1 G2 H2 : Hp} {σ : L2.St} {ds ds1 ds2 : DS} {vs ws : List V} {es es2 : List D} {x y : V} {d e : D} {X : Cx} {Q : VK} {fx : Nat → Bool}
/-! ### x.get(e), x.get(e, z): x a name of a dict by texts or ints -/
/-! ### list(range(n)) -/
/-! ### len(x), x a name of a dict by texts or ints -/
/-! ### x, y, z = e, e tells a list of three -/
end
end Z
namespace Z
open PySem L2
section
variable {α β : Type} {a : α} {x y : Option α} {P Q : D × DS → Prop} {i j t : Nat} {m ma mb mc md : ME} {b : MS} {ds : DS} {QS : Out → Prop} {g : List D → Option D} {r : MA} {QA : List D × DS → Prop}
end
end Z
namespace L2
open PySem PySem.Spec PyProof.Rows
/-! a < b of data that are alike -/
end L2
namespace Z
open PySem PySem.Spec L2
section
variable {K : KW} {mg : Str → Option Value} {X : Cx}
end
end Z
namespace Z
open PySem PySem.Spec PyProof.Rows L2
section
variable {K : KW} {mg : Str → Option Value} {f f1 f2 g1 g2 : List Addr} {G H G1 H1 G2 H2 : Hp} {σ : L2.St} {ds ds1 ds2 : DS} {vs ws : List V} {es es2 : List D} {x y : V} {d e d0 : D} {X : Cx} {Q : VK} {fx : Nat → Bool} {E : Ends} {c n : Str} {ns : List Str} {i j : Nat}
/-! ### self.f += e, whole numbers -/
def mAugV (i : Nat) (c n : Str) (op : Int → Int → Int) (me : ME) : ME := fun ds => match ds[i]? with
  | some (some d0) => match fldD n d0 with
    | some (.v (.int a)) => if insC c d0 then match me ds with
      | some (.v (.int b), ds1) => match ds1[i]? with
        | some (some d1) => if insC c d1 then some (.v (.int (op a b)), ds1) else none
        | _ => none
      | _ => none else none
    | _ => none
  | _ => none
theorem ts_augF {me : ME} {ns0 : List Str} {op : Int → Int → Int} {rd : V → V → Hp → VK → Prop} (hrd : ∀ (a b : Int) H Q, Q (.int (op a b)) H → rd (.int a) (.int b) H Q) (hC : ClsD K.k mg c ns0) (hn : n ∈ ns0) (h : ts K mg fx (mSetF i c n (mAugV i c n op me)) E σ H) : sFldAug K.k (tVar i) (tm K mg me) rd n E σ H := by
  have h := ts_setF hC hn h
  obtain ⟨G, ds, f, d, ds', gh, o, nd, e, k⟩ := h
  unfold mAugV at e
  split at e
  case h_2 => cases e
  rename_i d0 hi
  split at e
  case h_2 => cases e
  rename_i a hf
  split at e
  case isFalse => cases e
  rename_i hc
  split at e
  case h_2 => cases e
  rename_i b ds1 e1
  split at e
  case h_2 => cases e
  rename_i d1 hi1
  split at e
  case isFalse => cases e
  rename_i hc1
  cases e
  obtain ⟨v, fa, fb, fc, rfl, hv, ho, kk⟩ := o.split hi
  obtain ⟨p, C, dx, fs, u, f', rfl, eH, eC, el, w, s1, m1⟩ := ho.fld gh hf hc
  obtain ⟨q1, q2⟩ := hC.at eC hn
  obtain ⟨rfl, _⟩ := w.v_inv
  refine ⟨_, hv, p, C, dx, fs, _, rfl, eH, q1, q2, el, G, ds, _, _, _, gh, o, nd, e1, fun y G1 H1 p1 => ?_⟩
  obtain ⟨g1, g2, x1, o1, w1, n1⟩ := p1
  obtain ⟨rfl, rfl⟩ := w1.v_inv
  refine hrd a b _ _ ?_
  obtain ⟨v2, hv2, a2, C2, dx2, fs2, rfl, eH2, _, _, hl, hx⟩ := k (.int (op a b)) G1 H1 ⟨g1, [], by simpa using x1, o1, .v .nil, by simpa using n1⟩
  obtain ⟨v3, fa3, fb3, fc3, rfl, hv3, ho3, _⟩ := o1.split hi1
  rw [hv] at hv2 hv3
  cases hv2
  cases hv3
  have hC3 : C2 = C := by
    unfold insC at hc1
    split at hc1
    · rename_i o4 c4 ns4 es4
      simp only [decide_eq_true_eq] at hc1
      subst hc1
      obtain ⟨a5, C5, dx5, fs5, f5, h5, h6, h7, _⟩ := ho3.ins_inv x1.gh
      cases h5
      rw [eH2] at h6
      cases h6
      rw [eC] at h7
      cases h7
      rfl
    · cases hc1
  subst hC3
  exact ⟨dx2, fs2, eH2, hl, hx⟩
theorem xs_augF (i : Nat) {nm : Str} {p pos' pos : Pos} {e : Expr} {me : ME} {ns0 : List Str} (hC : ClsD X.K X.mg c ns0) (he : XE X e me) (hn : n ∈ ns0 := by decide) (hN : X.N[i]? = some nm := by rfl) (hv : Vis X.env.scope nm := by first | exact Or.inl rfl | exact Or.inr (Or.inl rfl) | exact Or.inr (Or.inr rfl)) (hd : (nm == ("__debug__" : Str)) = false := by decide) (hcd : (nm == ("__classdict__" : Str)) = false := by decide) : XS X fx (.AugAssign (.Attribute (.Name nm p) n pos') .Add e pos) (mSetF i c n (mAugV i c n (fun a b => a + b) me)) :=
  PS.mono (ps_fldaug (pe_var hN hv hd hcd) he in_add) fun _ _ _ h => ts_augF (K := X.kw) (fun a b H Q q => ⟨a, b, rfl, rfl, q⟩) hC hn h
theorem xs_subF (i : Nat) {nm : Str} {p pos' pos : Pos} {e : Expr} {me : ME} {ns0 : List Str} (hC : ClsD X.K X.mg c ns0) (he : XE X e me) (hn : n ∈ ns0 := by decide) (hN : X.N[i]? = some nm := by rfl) (hv : Vis X.env.scope nm := by first | exact Or.inl rfl | exact Or.inr (Or.inl rfl) | exact Or.inr (Or.inr rfl)) (hd : (nm == ("__debug__" : Str)) = false := by decide) (hcd : (nm == ("__classdict__" : Str)) = false := by decide) : XS X fx (.AugAssign (.Attribute (.Name nm p) n pos') .Sub e pos) (mSetF i c n (mAugV i c n (fun a b => a - b) me)) :=
  PS.mono (ps_fldaug (pe_var hN hv hd hcd) he in_sub) fun _ _ _ h => ts_augF (K := X.kw) (fun a b H Q q => ⟨a, b, rfl, rfl, q⟩) hC hn h
end
end Z
namespace My
open PySem PySem.Spec PyProof.Rows L2 Z
def topS (i : Nat) : Stmt := PySem.Challenge.pw_sayswho_k05_whole_words_worth.main.body.getD i (.Pass ⟨0, 0, 0, 0⟩)
def c_BARRED : D := .ktp [.v (.str "box"), .v (.str "mark"), .v (.str "ask"), .v (.str "put"), .v (.str "go"), .v (.str "if"), .v (.str "stop"), .v (.str "in"), .v (.str "not")]
def c_LETTERS : D := .v (.str "abcdefghijklmnopqrstuvwxyz")
def c_FIGURES : D := .v (.str "0123456789")
def c_LONGEST_NAME : D := .v (.int 8)
def c_LONGEST_NUMBER : D := .v (.int 3)
def c_MOST_SIGNS : D := .v (.int 60)
def c_DEEPEST : D := .v (.int 5)
abbrev s__law_reckon : Stmt := topS 19
abbrev N__law_reckon : List Str := ["numbers", "signs", "sign", "other", "one"]
theorem sc__law_reckon : FnScope N__law_reckon ["numbers", "signs"] (defScope s__law_reckon) := ⟨rfl, rfl, rfl, by decide +kernel, rfl, by decide +kernel, by decide +kernel⟩
def m__law_reckon : MS := (mSeq (mAsg 2 (mPop 1))
    (mSeq (mAsg 3 (mPop 0))
    (mSeq (mAsg 4 (mPop 0))
    (mAppend 0 (mOp dKx (mDisp [((mC (.str "+")), (mOp dAdd (mVar 4) (mVar 3))), ((mC (.str "-")), (mOp dSub (mVar 4) (mVar 3))), ((mC (.str "*")), (mOp dMul (mVar 4) (mVar 3)))]) (mVar 2))))))
def F__law_reckon : List D → Option (D × DS) := fnM 2 5 (fxOf [0, 1]) m__law_reckon
theorem ok__law_reckon {P : Program} {w : World} {K : PySem.W.Frag} {mg : Str → Option Value} {base : Heap} {f : Addr} {fd : FuncData} (F : Fun K "_law_reckon" "_law_reckon" s__law_reckon f fd) : FnOk P w K mg base CX0 1 f fd ["numbers", "signs"] (spF ⟨K, w⟩ mg 2 F__law_reckon) := by
  refine ok_def' (fx := fxOf [0, 1]) (m := m__law_reckon) rfl rfl rfl F sc__law_reckon fun cdv A outer s H E hr => ?_
  have nd := sc__law_reckon.nd
  exact (xb_cons (xs_set 2 nd (xe_pop 1))
        (xb_cons (xs_set 3 nd (xe_pop 0))
        (xb_cons (xs_set 4 nd (xe_pop 0))
        (xb_one (xs_append 0 (xe_ixd (hu65 hr) (xe_disp (xp_cons xe_str (xe_add (xv 4) (xv 3)) (xp_cons xe_str (xe_sub (xv 4) (xv 3)) (xp_cons xe_str (xe_mul (xv 4) (xv 3)) xp_nil)))) (xv 2)))))))
abbrev s__law_due : Stmt := topS 20
abbrev N__law_due : List Str := ["parts", "values", "numbers", "signs", "part"]
theorem sc__law_due : FnScope N__law_due ["parts", "values"] (defScope s__law_due) := ⟨rfl, rfl, rfl, by decide +kernel, rfl, by decide +kernel, by decide +kernel⟩
def m__law_due_0 : MS := (mAsg 2 (mFn dLst mNil))
def m__law_due_1 : MS := (mAsg 3 (mFn dLst mNil))
def m__law_due_2_0_0 : MS := (mAppend 3 (mMove 4))
def m__law_due_2_0b_0_0 : MS := (mAppend 2 (orFz 1 (mLookA 1 (mVar 4))))
def m__law_due_2_0b_0b_0_0 : MS := (mAppend 2 (mFn dIntF (mCons (mVar 4) mNil)))
def m__law_due_2_0b_0b_0b_0_0 : MS := (mDrop (mCall F__law_reckon [.bo 2, .bo 3]))
def m__law_due_2_0b_0b_0b_0 : MS := (mWhile (mAnd (mTst (mLook 3 dNe (mFrz (mFn dLst mNil)))) (mAnd (mTst (mOp dNe (orFz 3 (mLook 3 dIx (mNeg (mC (.int 1))))) (mC (.str "(")))) (mOr (mTst (mOp dNe (mVar 4) (mC (.str "*")))) (mTst (mOp dEq (orFz 3 (mLook 3 dIx (mNeg (mC (.int 1))))) (mC (.str "*"))))))) m__law_due_2_0b_0b_0b_0_0)
def m__law_due_2_0b_0b_0b_1_0 : MS := (mAppend 3 (mMove 4))
def m__law_due_2_0b_0b_0b_1b_0_0 : MS := (mDrop (mPop 3))
def m__law_due_2_0b_0b_0b_1b_0 : MS := (mIf (mTst (mLook 3 dNe (mFrz (mFn dLst mNil)))) m__law_due_2_0b_0b_0b_1b_0_0 mSkip)
def m__law_due_2_0b_0b_0b_1 : MS := (mIf (mTst (mOp dNe (mVar 4) (mC (.str ")")))) m__law_due_2_0b_0b_0b_1_0 m__law_due_2_0b_0b_0b_1b_0)
def m__law_due_2_0b_0b_0 : MS := (mIf (mTst (mOp dNin (mVar 4) (mFn dLst (mCons (mC (.str "+")) (mCons (mC (.str "-")) (mCons (mC (.str "*")) (mCons (mC (.str ")")) mNil))))))) m__law_due_2_0b_0b_0_0 (mSeq m__law_due_2_0b_0b_0b_0
    m__law_due_2_0b_0b_0b_1))
def m__law_due_2_0b_0 : MS := (mIf (mTst (mInV true 1 (mVar 4))) m__law_due_2_0b_0_0 m__law_due_2_0b_0b_0)
def m__law_due_2_0 : MS := (mIf (mTst (mOp dEq (mVar 4) (mC (.str "(")))) m__law_due_2_0_0 m__law_due_2_0b_0)
def m__law_due_2 : MS := (mFor (mIt itemsL (mOp dAdd (mVar 0) (mFn dLst (mCons (mC (.str ")")) mNil)))) (gNm 4) m__law_due_2_0)
def m__law_due_3 : MS := (mRet (orFz 2 (mLook 2 dIx (mC (.int 0)))))
def m__law_due : MS := (mSeq m__law_due_0
    (mSeq m__law_due_1
    (mSeq m__law_due_2
    m__law_due_3)))
def F__law_due : List D → Option (D × DS) := fnM 2 5 (fxOf [0, 1]) m__law_due
theorem ok__law_due {P : Program} {w : World} {K : PySem.W.Frag} {mg : Str → Option Value} {base : Heap} {f : Addr} {fd : FuncData} (F : Fun K "_law_due" "_law_due" s__law_due f fd) (D__law_reckon : Def P w K mg base 1 "_law_reckon" 2 F__law_reckon) (z_int : mg "int" = none) : FnOk P w K mg base CX0 2 f fd ["parts", "values"] (spF ⟨K, w⟩ mg 2 F__law_due) := by
  refine ok_def' (fx := fxOf [0, 1]) (m := m__law_due) rfl rfl rfl F sc__law_due fun cdv A outer s H E hr => ?_
  have nd := sc__law_due.nd
  exact (xb_cons (xs_set 2 nd (xe_lst xa_nil))
        (xb_cons (xs_set 3 nd (xe_lst xa_nil))
        (xb_cons (xs_for PassesOwn.never rfl (xi_list (xe_add (xv 0) (xe_lst (xa_cons xe_str xa_nil)))) (xg_name 4 nd) (xb_one (xs_if (xt_eq hr.units (xv 4) xe_str) (xb_one (xs_append 3 (xmv 4))) (xb_one (xs_if (xt_inV 1 (hu65 hr) (xv 4)) (xb_one (xs_append 2 (xe_orFz 1 (xe_ixa 1 (hu65 hr) (xv 4))))) (xb_one (xs_if (xt_nin (hu65 hr) (xv 4) (xe_lst (xa_cons xe_str (xa_cons xe_str (xa_cons xe_str (xa_cons xe_str xa_nil)))))) (xb_one (xs_append 2 (xe_callTy callr_intF calld_intF (by rfl) z_int (by decide +kernel) (xa_cons (xv 4) xa_nil)))) (xb_cons (xs_while PassesOwn.never (xt_w (xw_and (xt_neV 3 hr.units (xe_frz (xe_lst xa_nil))) (xw_and (xt_ne hr.units (xe_orFz 3 (xe_ixv 3 (xe_neg xe_int))) xe_str) (xw_and1 (xt_w (xw_or (xt_ne hr.units (xv 4) xe_str) (xw_or1 (xt_eq hr.units (xe_orFz 3 (xe_ixv 3 (xe_neg xe_int))) xe_str)))))))) (xb_one (xs_expr (xe_call D__law_reckon (hr.mono (by decide)) (xr_bo 2 (xr_bo 3 xr_nil))))))
        (xb_one (xs_if (xt_ne hr.units (xv 4) xe_str) (xb_one (xs_append 3 (xmv 4))) (xb_one (xs_if (xt_neV 3 hr.units (xe_frz (xe_lst xa_nil))) (xb_one (xs_expr (xe_pop 3))) xb_nil))))))))))))
        (xb_one (xs_ret (xe_orFz 2 (xe_ixv 2 xe_int)))))))
abbrev s__law_stir : Stmt := topS 17
abbrev N__law_stir : List Str := ["cell", "k", "number"]
theorem sc__law_stir : FnScope N__law_stir ["cell", "k"] (defScope s__law_stir) := ⟨rfl, rfl, rfl, by decide +kernel, rfl, by decide +kernel, by decide +kernel⟩
def m__law_stir : MS := (mSeq (mIf (mTst (mOp dGe (mVar 0) (mOp dPow (mC (.int 10)) (mC (.int 18))))) (mRet (mOp dMod (mOp dShr (mOp dSub (mVar 0) (mOp dPow (mC (.int 10)) (mC (.int 18)))) (mOp dMul (mC (.int 28)) (mVar 1))) (mOp dPow (mC (.int 2)) (mC (.int 28))))) mSkip)
    (mSeq (mAsg 2 (mOp dMod (mOp dMul (mOp dAdd (mOp dAdd (mVar 0) (mOp dMul (mC (.int 1013)) (mVar 1))) (mC (.int 1))) (mC (.int 16807))) (mC (.int 2147483647))))
    (mSeq (mAsg 2 (mOp dMod (mOp dMul (mVar 2) (mVar 2)) (mC (.int 2147483629))))
    (mRet (mOp dFdiv (mOp dMod (mOp dMul (mVar 2) (mC (.int 39373))) (mC (.int 2147483587))) (mC (.int 8)))))))
def F__law_stir : List D → Option (D × DS) := fnM 2 3 (fxOf [0, 1]) m__law_stir
theorem ok__law_stir {P : Program} {w : World} {K : PySem.W.Frag} {mg : Str → Option Value} {base : Heap} {f : Addr} {fd : FuncData} (F : Fun K "_law_stir" "_law_stir" s__law_stir f fd) : FnOk P w K mg base CX0 1 f fd ["cell", "k"] (spF ⟨K, w⟩ mg 2 F__law_stir) := by
  refine ok_def' (fx := fxOf [0, 1]) (m := m__law_stir) rfl rfl rfl F sc__law_stir fun cdv A outer s H E hr => ?_
  have nd := sc__law_stir.nd
  exact (xb_cons (xs_if (xt_ge (xv 0) (xe_pow xe_int xe_int)) (xb_one (xs_ret (xe_mod (xe_shr (xe_sub (xv 0) (xe_pow xe_int xe_int)) (xe_mul xe_int (xv 1))) (xe_pow xe_int xe_int)))) xb_nil)
        (xb_cons (xs_set 2 nd (xe_mod (xe_mul (xe_add (xe_add (xv 0) (xe_mul xe_int (xv 1))) xe_int) xe_int) xe_int))
        (xb_cons (xs_set 2 nd (xe_mod (xe_mul (xv 2) (xv 2)) xe_int))
        (xb_one (xs_ret (xe_fdiv (xe_mod (xe_mul (xv 2) xe_int) xe_int) xe_int))))))
abbrev s__law_parts : Stmt := topS 18
abbrev N__law_parts : List Str := ["cell", "parts", "deep", "k", "number", "leaf"]
theorem sc__law_parts : FnScope N__law_parts ["cell"] (defScope s__law_parts) := ⟨rfl, rfl, rfl, by decide +kernel, rfl, by decide +kernel, by decide +kernel⟩
def m__law_parts_0 : MS := (mAsg 1 (mFn dLst mNil))
def m__law_parts_1 : MS := (mAsg 2 (mC (.int 0)))
def m__law_parts_2_0 : MS := (mAsg 4 (mCall F__law_stir [.bo 0, .ex (mOp dAdd (mC (.int 1)) (mVar 3))]))
def m__law_parts_2_1_0 : MS := (mAppend 1 (mC (.str "(")))
def m__law_parts_2_1_1 : MS := (mAsg 2 (mOp dAdd (mVar 2) (mC (.int 1))))
def m__law_parts_2_1_2 : MS := (mAsg 4 (mOp dFdiv (mVar 4) (mC (.int 4))))
def m__law_parts_2_1 : MS := (mWhile (mAnd (mTst (mOp dEq (mOp dMod (mVar 4) (mC (.int 4))) (mC (.int 0)))) (mAnd (mTst (mOp dGt (mVar 4) (mC (.int 0)))) (mTst (mOp dLt (mVar 2) (mC (.int 5)))))) (mSeq m__law_parts_2_1_0
    (mSeq m__law_parts_2_1_1
    m__law_parts_2_1_2)))
def m__law_parts_2_2 : MS := (mAsg 5 (mOp dIx (mFn dLst (mCons (mFn dStrF (mCons (mOp dMod (mOp dFdiv (mVar 4) (mC (.int 8))) (mC (.int 12))) mNil)) (mCons (mFn dStrF (mCons (mOp dMod (mOp dFdiv (mVar 4) (mC (.int 8))) (mC (.int 1000))) mNil)) (mCons (mC (.str "a")) (mCons (mC (.str "bb")) (mCons (mC (.str "c")) (mCons (mC (.str "a")) (mCons (mC (.str "bb")) mNil)))))))) (mOp dMod (mVar 4) (mC (.int 7)))))
def m__law_parts_2_3 : MS := (mAppend 1 (mMove 5))
def m__law_parts_2_4 : MS := (mAsg 4 (mOp dFdiv (mVar 4) (mC (.int 56))))
def m__law_parts_2_5_0 : MS := (mAppend 1 (mC (.str ")")))
def m__law_parts_2_5_1 : MS := (mAsg 2 (mOp dSub (mVar 2) (mC (.int 1))))
def m__law_parts_2_5_2 : MS := (mAsg 4 (mOp dFdiv (mVar 4) (mC (.int 3))))
def m__law_parts_2_5 : MS := (mWhile (mAnd (mTst (mOp dEq (mOp dMod (mVar 4) (mC (.int 3))) (mC (.int 0)))) (mAnd (mTst (mOp dGt (mVar 4) (mC (.int 0)))) (mTst (mOp dGt (mVar 2) (mC (.int 0)))))) (mSeq m__law_parts_2_5_0
    (mSeq m__law_parts_2_5_1
    m__law_parts_2_5_2)))
def m__law_parts_2_6 : MS := (mAppend 1 (mOp dIx (mC (.str "+-*")) (mOp dMod (mVar 4) (mC (.int 3)))))
def m__law_parts_2 : MS := (mFor (mRngA (mCons (mOp dAdd (mC (.int 1)) (mOp dMod (mCall F__law_stir [.bo 0, .ex (mC (.int 0))]) (mC (.int 10)))) mNil)) (gNm 3) (mSeq m__law_parts_2_0
    (mSeq m__law_parts_2_1
    (mSeq m__law_parts_2_2
    (mSeq m__law_parts_2_3
    (mSeq m__law_parts_2_4
    (mSeq m__law_parts_2_5
    m__law_parts_2_6)))))))
def m__law_parts_3 : MS := (mRet (mOp dAdd (mSl (mVar 1) oNo (oYes (mNeg (mC (.int 1))))) (mOp dMulV (mFn dLst (mCons (mC (.str ")")) mNil)) (mVar 2))))
def m__law_parts : MS := (mSeq m__law_parts_0
    (mSeq m__law_parts_1
    (mSeq m__law_parts_2
    m__law_parts_3)))
def F__law_parts : List D → Option (D × DS) := fnM 1 6 (fxOf [0]) m__law_parts
theorem ok__law_parts {P : Program} {w : World} {K : PySem.W.Frag} {mg : Str → Option Value} {base : Heap} {f : Addr} {fd : FuncData} (F : Fun K "_law_parts" "_law_parts" s__law_parts f fd) (D__law_stir : Def P w K mg base 1 "_law_stir" 2 F__law_stir) (z_range : mg "range" = none) (z_str : mg "str" = none) : FnOk P w K mg base CX0 2 f fd ["cell"] (spF ⟨K, w⟩ mg 1 F__law_parts) := by
  refine ok_def' (fx := fxOf [0]) (m := m__law_parts) rfl rfl rfl F sc__law_parts fun cdv A outer s H E hr => ?_
  have nd := sc__law_parts.nd
  exact (xb_cons (xs_set 1 nd (xe_lst xa_nil))
        (xb_cons (xs_set 2 nd xe_int)
        (xb_cons (xs_for PassesOwn.never rfl (xi_rng1 z_range (xe_add xe_int (xe_mod (xe_call D__law_stir (hr.mono (by decide)) (xr_bo 0 (xr_ex xe_int xr_nil))) xe_int))) (xg_name 3 nd) (xb_cons (xs_set 4 nd (xe_call D__law_stir (hr.mono (by decide)) (xr_bo 0 (xr_ex (xe_add xe_int (xv 3)) xr_nil))))
        (xb_cons (xs_while PassesOwn.never (xt_w (xw_and (xt_eq hr.units (xe_mod (xv 4) xe_int) xe_int) (xw_and (xt_gt (xv 4) xe_int) (xw_and1 (xt_lt (xv 2) xe_int))))) (xb_cons (xs_append 1 xe_str)
        (xb_cons (xs_set 2 nd (xe_add (xv 2) xe_int))
        (xb_one (xs_set 4 nd (xe_fdiv (xv 4) xe_int))))))
        (xb_cons (xs_set 5 nd (xe_ix (xe_lst (xa_cons (xe_callTy call_str_int calld_strF (by rfl) z_str (by decide +kernel) (xa_cons (xe_mod (xe_fdiv (xv 4) xe_int) xe_int) xa_nil)) (xa_cons (xe_callTy call_str_int calld_strF (by rfl) z_str (by decide +kernel) (xa_cons (xe_mod (xe_fdiv (xv 4) xe_int) xe_int) xa_nil)) (xa_cons xe_str (xa_cons xe_str (xa_cons xe_str (xa_cons xe_str (xa_cons xe_str xa_nil)))))))) (xe_mod (xv 4) xe_int)))
        (xb_cons (xs_append 1 (xmv 5))
        (xb_cons (xs_set 4 nd (xe_fdiv (xv 4) xe_int))
        (xb_cons (xs_while PassesOwn.never (xt_w (xw_and (xt_eq hr.units (xe_mod (xv 4) xe_int) xe_int) (xw_and (xt_gt (xv 4) xe_int) (xw_and1 (xt_gt (xv 2) xe_int))))) (xb_cons (xs_append 1 xe_str)
        (xb_cons (xs_set 2 nd (xe_sub (xv 2) xe_int))
        (xb_one (xs_set 4 nd (xe_fdiv (xv 4) xe_int))))))
        (xb_one (xs_append 1 (xe_ix xe_str (xe_mod (xv 4) xe_int)))))))))))
        (xb_one (xs_ret (xe_add (xe_sl (xv 1) xo_no (xo_yes (xe_neg xe_int))) (xe_mulV (xe_lst (xa_cons xe_str xa_nil)) (xv 2))))))))
abbrev s_Cursor_here : Stmt := inClass (topS 13) 1
abbrev N_Cursor_here : List Str := ["self"]
theorem sc_Cursor_here : FnScope N_Cursor_here ["self"] (defScope s_Cursor_here) := ⟨rfl, rfl, rfl, by decide +kernel, rfl, by decide +kernel, by decide +kernel⟩
def m_Cursor_here : MS := (mRet (mSl (mFrz (mFld 0 "Cursor" "word")) (oYes (mFld 0 "Cursor" "at")) (oYes (mOp dAdd (mFld 0 "Cursor" "at") (mC (.int 1))))))
def F_Cursor_here : List D → Option (D × DS) := fnM 1 1 (fxOf [0]) m_Cursor_here
theorem ok_Cursor_here {P : Program} {w : World} {K : PySem.W.Frag} {mg : Str → Option Value} {base : Heap} {f : Addr} {fd : FuncData} (F : Fun K "here" "Cursor.here" s_Cursor_here f fd) (c_Cursor : ClsD K mg "Cursor" ["word", "at", "deep"]) : FnOk P w K mg base CX0 1 f fd ["self"] (spF ⟨K, w⟩ mg 1 F_Cursor_here) := by
  refine ok_def' (fx := fxOf [0]) (m := m_Cursor_here) rfl rfl rfl F sc_Cursor_here fun cdv A outer s H E hr => ?_
  have nd := sc_Cursor_here.nd
  exact (xb_one (xs_ret (xe_sl (xe_frz (xe_fld 0 c_Cursor)) (xo_yes (xe_fld 0 c_Cursor)) (xo_yes (xe_add (xe_fld 0 c_Cursor) xe_int)))))
abbrev s_Cursor_init : Stmt := inClass (topS 13) 0
abbrev N_Cursor_init : List Str := ["self", "word"]
theorem sc_Cursor_init : FnScope N_Cursor_init ["self", "word"] (defScope s_Cursor_init) := ⟨rfl, rfl, rfl, by decide +kernel, rfl, by decide +kernel, by decide +kernel⟩
def m_Cursor_init : MS := (mSeq (mSetF 0 "Cursor" "word" (mVar 1))
    (mSeq (mSetF 0 "Cursor" "at" (mC (.int 0)))
    (mSetF 0 "Cursor" "deep" (mC (.int 0)))))
def F_Cursor_init : List D → Option (D × DS) := fnM 2 2 (fxOf [0, 1]) m_Cursor_init
theorem ok_Cursor_init {P : Program} {w : World} {K : PySem.W.Frag} {mg : Str → Option Value} {base : Heap} {f : Addr} {fd : FuncData} (F : Fun K "__init__" "Cursor.__init__" s_Cursor_init f fd) (c_Cursor : ClsD K mg "Cursor" ["word", "at", "deep"]) : FnOk P w K mg base CX0 1 f fd ["self", "word"] (spF ⟨K, w⟩ mg 2 F_Cursor_init) := by
  refine ok_def' (fx := fxOf [0, 1]) (m := m_Cursor_init) rfl rfl rfl F sc_Cursor_init fun cdv A outer s H E hr => ?_
  have nd := sc_Cursor_init.nd
  exact (xb_cons (xs_setF 0 c_Cursor (xv 1))
        (xb_cons (xs_setF 0 c_Cursor xe_int)
        (xb_one (xs_setF 0 c_Cursor xe_int))))
abbrev s_Cursor_bracket_told : Stmt := inClass (topS 13) 6
abbrev N_Cursor_bracket_told : List Str := ["self", "found"]
theorem sc_Cursor_bracket_told : FnScope N_Cursor_bracket_told ["self"] (defScope s_Cursor_bracket_told) := ⟨rfl, rfl, rfl, by decide +kernel, rfl, by decide +kernel, by decide +kernel⟩
def m_Cursor_bracket_told (R : List D → Option (D × DS)) : MS := (mSeq (mSetF 0 "Cursor" "deep" (mAugV 0 "Cursor" "deep" (fun a b => a + b) (mC (.int 1))))
    (mSeq (mIf (mTst (mOp dGt (mFld 0 "Cursor" "deep") (mK c_DEEPEST))) (fun _ => none) mSkip)
    (mSeq (mSetF 0 "Cursor" "at" (mAugV 0 "Cursor" "at" (fun a b => a + b) (mC (.int 1))))
    (mSeq (mAsg 1 (mMeth 0 "Cursor" "sum_told" R []))
    (mSeq (mIf (mTst (mOp dNe (mMeth 0 "Cursor" "here" F_Cursor_here []) (mC (.str ")")))) (fun _ => none) mSkip)
    (mSeq (mSetF 0 "Cursor" "at" (mAugV 0 "Cursor" "at" (fun a b => a + b) (mC (.int 1))))
    (mSeq (mSetF 0 "Cursor" "deep" (mAugV 0 "Cursor" "deep" (fun a b => a - b) (mC (.int 1))))
    (mRet (mMove 1)))))))))
def F_Cursor_bracket_told (R : List D → Option (D × DS)) : List D → Option (D × DS) := fnM 1 2 (fxOf [0]) (m_Cursor_bracket_told R)
theorem ok_Cursor_bracket_told {P : Program} {w : World} {K : PySem.W.Frag} {mg : Str → Option Value} {base : Heap} {f : Addr} {fd : FuncData} (F : Fun K "bracket_told" "Cursor.bracket_told" s_Cursor_bracket_told f fd) {nn : Nat} {R : List D → Option (D × DS)} (D_Cursor_here : MethD P w K mg base 1 "Cursor" "here" 1 F_Cursor_here) (D_Cursor_sum_told : MethD P w K mg base (3 + 4 * nn) "Cursor" "sum_told" 1 R) (k_DEEPEST : KV ⟨K, w⟩ mg "DEEPEST" c_DEEPEST) (c_Cursor : ClsD K mg "Cursor" ["word", "at", "deep"]) : FnOk P w K mg base CX0 (3 + 4 * nn + 1) f fd ["self"] (spF ⟨K, w⟩ mg 1 (fnM 1 2 (fxOf [0]) (m_Cursor_bracket_told R))) := by
  refine ok_def' (fx := fxOf [0]) (m := (m_Cursor_bracket_told R)) rfl rfl rfl F sc_Cursor_bracket_told fun cdv A outer s H E hr => ?_
  have nd := sc_Cursor_bracket_told.nd
  exact (xb_cons (xs_augF 0 c_Cursor xe_int)
        (xb_cons (xs_if (xt_gt (xe_fld 0 c_Cursor) (xe_kv k_DEEPEST)) (xb_one (xs_none _)) xb_nil)
        (xb_cons (xs_augF 0 c_Cursor xe_int)
        (xb_cons (xs_set 1 nd (xe_meth0 0 D_Cursor_sum_told (hr.mono (by omega))))
        (xb_cons (xs_if (xt_ne hr.units (xe_meth0 0 D_Cursor_here (hr.mono (by omega))) xe_str) (xb_one (xs_none _)) xb_nil)
        (xb_cons (xs_augF 0 c_Cursor xe_int)
        (xb_cons (xs_subF 0 c_Cursor xe_int)
        (xb_one (xs_ret (xmv 1))))))))))
abbrev s_Cursor_taken : Stmt := inClass (topS 13) 2
abbrev N_Cursor_taken : List Str := ["self", "signs", "begin"]
theorem sc_Cursor_taken : FnScope N_Cursor_taken ["self", "signs"] (defScope s_Cursor_taken) := ⟨rfl, rfl, rfl, by decide +kernel, rfl, by decide +kernel, by decide +kernel⟩
def m_Cursor_taken : MS := (mSeq (mAsg 2 (mFld 0 "Cursor" "at"))
    (mSeq (mWhile (mAnd (mTst (mOp dNe (mMeth 0 "Cursor" "here" F_Cursor_here []) (mC (.str "")))) (mTst (mInV true 1 (mMeth 0 "Cursor" "here" F_Cursor_here [])))) (mSetF 0 "Cursor" "at" (mAugV 0 "Cursor" "at" (fun a b => a + b) (mC (.int 1)))))
    (mRet (mSl (mFrz (mFld 0 "Cursor" "word")) (oYes (mVar 2)) (oYes (mFld 0 "Cursor" "at"))))))
def F_Cursor_taken : List D → Option (D × DS) := fnM 2 3 (fxOf [0, 1]) m_Cursor_taken
theorem ok_Cursor_taken {P : Program} {w : World} {K : PySem.W.Frag} {mg : Str → Option Value} {base : Heap} {f : Addr} {fd : FuncData} (F : Fun K "taken" "Cursor.taken" s_Cursor_taken f fd) (D_Cursor_here : MethD P w K mg base 1 "Cursor" "here" 1 F_Cursor_here) (c_Cursor : ClsD K mg "Cursor" ["word", "at", "deep"]) : FnOk P w K mg base CX0 2 f fd ["self", "signs"] (spF ⟨K, w⟩ mg 2 F_Cursor_taken) := by
  refine ok_def' (fx := fxOf [0, 1]) (m := m_Cursor_taken) rfl rfl rfl F sc_Cursor_taken fun cdv A outer s H E hr => ?_
  have nd := sc_Cursor_taken.nd
  exact (xb_cons (xs_set 2 nd (xe_fld 0 c_Cursor))
        (xb_cons (xs_while PassesOwn.never (xt_w (xw_and (xt_ne hr.units (xe_meth0 0 D_Cursor_here (hr.mono (by decide))) xe_str) (xw_and1 (xt_inV 1 (hu65 hr) (xe_meth0 0 D_Cursor_here (hr.mono (by decide))))))) (xb_one (xs_augF 0 c_Cursor xe_int)))
        (xb_one (xs_ret (xe_sl (xe_frz (xe_fld 0 c_Cursor)) (xo_yes (xv 2)) (xo_yes (xe_fld 0 c_Cursor)))))))
abbrev s_is_name : Stmt := topS 11
abbrev N_is_name : List Str := ["word", "sign"]
theorem sc_is_name : FnScope N_is_name ["word"] (defScope s_is_name) := ⟨rfl, rfl, rfl, by decide +kernel, rfl, by decide +kernel, by decide +kernel⟩
def m_is_name_0_0 : MS := (mRet (mC (.bl false)))
def m_is_name_0 : MS := (mIf (mOr (mNot (mTst (mChn leP leP (mC (.int 1)) (mFn dLen (mCons (mVar 0) mNil)) (mK c_LONGEST_NAME)))) (mTst (mOp dIn (mVar 0) (mK c_BARRED)))) m_is_name_0_0 mSkip)
def m_is_name_1 : MS := (mRet (mOp dEq (mLc (mIt itemsS (mVar 0)) (gNm 1) (mTst (mOp dNin (mVar 1) (mK c_LETTERS))) (mVar 1) [1]) (mFn dLst mNil)))
def m_is_name : MS := (mSeq m_is_name_0
    m_is_name_1)
def F_is_name : List D → Option (D × DS) := fnM 1 2 (fxOf [0]) m_is_name
theorem ok_is_name {P : Program} {w : World} {K : PySem.W.Frag} {mg : Str → Option Value} {base : Heap} {f : Addr} {fd : FuncData} (F : Fun K "is_name" "is_name" s_is_name f fd) (z_len : mg "len" = none) (k_BARRED : KV ⟨K, w⟩ mg "BARRED" c_BARRED) (k_LETTERS : KV ⟨K, w⟩ mg "LETTERS" c_LETTERS) (k_LONGEST_NAME : KV ⟨K, w⟩ mg "LONGEST_NAME" c_LONGEST_NAME) : FnOk P w K mg base CX0 1 f fd ["word"] (spF ⟨K, w⟩ mg 1 F_is_name) := by
  refine ok_def' (fx := fxOf [0]) (m := m_is_name) rfl rfl rfl F sc_is_name fun cdv A outer s H E hr => ?_
  have nd := sc_is_name.nd
  exact (xb_cons (xs_if (xt_w (xw_or (xt_not (xt_chn op_le op_le xe_int (xe_callB callr_len calld_len (by rfl) z_len (by decide +kernel) (xa_cons (xv 0) xa_nil)) (xe_kv k_LONGEST_NAME))) (xw_or1 (xt_in (hu65 hr) (xv 0) (xe_kv k_BARRED))))) (xb_one (xs_ret xe_bl)) xb_nil)
        (xb_one (xs_ret (xe_eq hr.units (xe_lc [("sign", 1)] nd (xi_str (xv 0)) (blkOk_by (N := N_is_name) (sc := defScope s_is_name) (by decide +kernel)) (fun _ _ _ _ _ => (xg_name 1 nd)) (fun _ _ _ _ _ => (xts_one (xt_nin (hu65 hr) (xv 1) (xe_kv k_LETTERS)))) (fun _ _ _ _ _ => (xv 1))) (xe_lst xa_nil)))))
abbrev s_is_plain_number : Stmt := topS 12
abbrev N_is_plain_number : List Str := ["word", "sign"]
theorem sc_is_plain_number : FnScope N_is_plain_number ["word"] (defScope s_is_plain_number) := ⟨rfl, rfl, rfl, by decide +kernel, rfl, by decide +kernel, by decide +kernel⟩
def m_is_plain_number_0_0 : MS := (mRet (mC (.bl false)))
def m_is_plain_number_0 : MS := (mIf (mOr (mNot (mTst (mChn leP leP (mC (.int 1)) (mFn dLen (mCons (mVar 0) mNil)) (mK c_LONGEST_NUMBER)))) (mAnd (mTst (mOp dEq (orFz 0 (mLook 0 dIx (mC (.int 0)))) (mC (.str "0")))) (mTst (mOp dNe (mVar 0) (mC (.str "0")))))) m_is_plain_number_0_0 mSkip)
def m_is_plain_number_1 : MS := (mRet (mOp dEq (mLc (mIt itemsS (mVar 0)) (gNm 1) (mTst (mOp dNin (mVar 1) (mK c_FIGURES))) (mVar 1) [1]) (mFn dLst mNil)))
def m_is_plain_number : MS := (mSeq m_is_plain_number_0
    m_is_plain_number_1)
def F_is_plain_number : List D → Option (D × DS) := fnM 1 2 (fxOf [0]) m_is_plain_number
theorem ok_is_plain_number {P : Program} {w : World} {K : PySem.W.Frag} {mg : Str → Option Value} {base : Heap} {f : Addr} {fd : FuncData} (F : Fun K "is_plain_number" "is_plain_number" s_is_plain_number f fd) (z_len : mg "len" = none) (k_FIGURES : KV ⟨K, w⟩ mg "FIGURES" c_FIGURES) (k_LONGEST_NUMBER : KV ⟨K, w⟩ mg "LONGEST_NUMBER" c_LONGEST_NUMBER) : FnOk P w K mg base CX0 1 f fd ["word"] (spF ⟨K, w⟩ mg 1 F_is_plain_number) := by
  refine ok_def' (fx := fxOf [0]) (m := m_is_plain_number) rfl rfl rfl F sc_is_plain_number fun cdv A outer s H E hr => ?_
  have nd := sc_is_plain_number.nd
  exact (xb_cons (xs_if (xt_w (xw_or (xt_not (xt_chn op_le op_le xe_int (xe_callB callr_len calld_len (by rfl) z_len (by decide +kernel) (xa_cons (xv 0) xa_nil)) (xe_kv k_LONGEST_NUMBER))) (xw_or1 (xt_w (xw_and (xt_eq hr.units (xe_orFz 0 (xe_ixv 0 xe_int)) xe_str) (xw_and1 (xt_ne hr.units (xv 0) xe_str))))))) (xb_one (xs_ret xe_bl)) xb_nil)
        (xb_one (xs_ret (xe_eq hr.units (xe_lc [("sign", 1)] nd (xi_str (xv 0)) (blkOk_by (N := N_is_plain_number) (sc := defScope s_is_plain_number) (by decide +kernel)) (fun _ _ _ _ _ => (xg_name 1 nd)) (fun _ _ _ _ _ => (xts_one (xt_nin (hu65 hr) (xv 1) (xe_kv k_FIGURES)))) (fun _ _ _ _ _ => (xv 1))) (xe_lst xa_nil)))))
abbrev s_Cursor_factor_told : Stmt := inClass (topS 13) 5
abbrev N_Cursor_factor_told : List Str := ["self", "figures", "letters"]
theorem sc_Cursor_factor_told : FnScope N_Cursor_factor_told ["self"] (defScope s_Cursor_factor_told) := ⟨rfl, rfl, rfl, by decide +kernel, rfl, by decide +kernel, by decide +kernel⟩
def m_Cursor_factor_told (R : List D → Option (D × DS)) : MS := (mSeq (mIf (mTst (mOp dEq (mMeth 0 "Cursor" "here" F_Cursor_here []) (mC (.str "(")))) (mRet (mMeth 0 "Cursor" "bracket_told" (F_Cursor_bracket_told R) [])) mSkip)
    (mSeq (mAsg 1 (mMeth 0 "Cursor" "taken" F_Cursor_taken [.ex (mK c_FIGURES)]))
    (mSeq (mIf (mTst (mCall F_is_plain_number [.bo 1])) (mRet (mFn dTup (mCons (mC (.str "number")) (mCons (mFn dIntF (mCons (mVar 1) mNil)) mNil)))) mSkip)
    (mSeq (mAsg 2 (mMeth 0 "Cursor" "taken" F_Cursor_taken [.ex (mK c_LETTERS)]))
    (mSeq (mIf (mOr (mTst (mOp dNe (mVar 1) (mC (.str "")))) (mNot (mTst (mCall F_is_name [.bo 2])))) (fun _ => none) mSkip)
    (mRet (mFn dTup (mCons (mC (.str "box")) (mCons (mVar 2) mNil)))))))))
def F_Cursor_factor_told (R : List D → Option (D × DS)) : List D → Option (D × DS) := fnM 1 3 (fxOf [0]) (m_Cursor_factor_told R)
theorem ok_Cursor_factor_told {P : Program} {w : World} {K : PySem.W.Frag} {mg : Str → Option Value} {base : Heap} {f : Addr} {fd : FuncData} (F : Fun K "factor_told" "Cursor.factor_told" s_Cursor_factor_told f fd) {nn : Nat} {R : List D → Option (D × DS)} (D_Cursor_bracket_told : MethD P w K mg base (3 + 4 * nn + 1) "Cursor" "bracket_told" 1 (F_Cursor_bracket_told R)) (D_Cursor_here : MethD P w K mg base 1 "Cursor" "here" 1 F_Cursor_here) (D_Cursor_taken : MethD P w K mg base 2 "Cursor" "taken" 2 F_Cursor_taken) (D_is_name : Def P w K mg base 1 "is_name" 1 F_is_name) (D_is_plain_number : Def P w K mg base 1 "is_plain_number" 1 F_is_plain_number) (z_int : mg "int" = none) (k_FIGURES : KV ⟨K, w⟩ mg "FIGURES" c_FIGURES) (k_LETTERS : KV ⟨K, w⟩ mg "LETTERS" c_LETTERS) : FnOk P w K mg base CX0 (3 + 4 * nn + 2) f fd ["self"] (spF ⟨K, w⟩ mg 1 (fnM 1 3 (fxOf [0]) (m_Cursor_factor_told R))) := by
  refine ok_def' (fx := fxOf [0]) (m := (m_Cursor_factor_told R)) rfl rfl rfl F sc_Cursor_factor_told fun cdv A outer s H E hr => ?_
  have nd := sc_Cursor_factor_told.nd
  exact (xb_cons (xs_if (xt_eq hr.units (xe_meth0 0 D_Cursor_here (hr.mono (by omega))) xe_str) (xb_one (xs_ret (xe_meth0 0 D_Cursor_bracket_told (hr.mono (by omega))))) xb_nil)
        (xb_cons (xs_set 1 nd (xe_meth 0 D_Cursor_taken (hr.mono (by omega)) (xr_ex (xe_kv k_FIGURES) xr_nil)))
        (xb_cons (xs_if (xt_val (xe_call D_is_plain_number (hr.mono (by omega)) (xr_bo 1 xr_nil))) (xb_one (xs_ret (xe_tup (xa_cons xe_str (xa_cons (xe_callTy callr_intF calld_intF (by rfl) z_int (by decide +kernel) (xa_cons (xv 1) xa_nil)) xa_nil))))) xb_nil)
        (xb_cons (xs_set 2 nd (xe_meth 0 D_Cursor_taken (hr.mono (by omega)) (xr_ex (xe_kv k_LETTERS) xr_nil)))
        (xb_cons (xs_if (xt_w (xw_or (xt_ne hr.units (xv 1) xe_str) (xw_or1 (xt_not (xt_val (xe_call D_is_name (hr.mono (by omega)) (xr_bo 2 xr_nil))))))) (xb_one (xs_none _)) xb_nil)
        (xb_one (xs_ret (xe_tup (xa_cons xe_str (xa_cons (xv 2) xa_nil))))))))))
abbrev s_Cursor_term_told : Stmt := inClass (topS 13) 4
abbrev N_Cursor_term_told : List Str := ["self", "found"]
theorem sc_Cursor_term_told : FnScope N_Cursor_term_told ["self"] (defScope s_Cursor_term_told) := ⟨rfl, rfl, rfl, by decide +kernel, rfl, by decide +kernel, by decide +kernel⟩
def m_Cursor_term_told (R : List D → Option (D × DS)) : MS := (mSeq (mAsg 1 (mMeth 0 "Cursor" "factor_told" (F_Cursor_factor_told R) []))
    (mSeq (mWhile (mTst (mOp dEq (mMeth 0 "Cursor" "here" F_Cursor_here []) (mC (.str "*")))) (mSeq (mSetF 0 "Cursor" "at" (mAugV 0 "Cursor" "at" (fun a b => a + b) (mC (.int 1))))
    (mAsg 1 (mFn dTup (mCons (mC (.str "*")) (mCons (mVar 1) (mCons (mMeth 0 "Cursor" "factor_told" (F_Cursor_factor_told R) []) mNil)))))))
    (mRet (mMove 1))))
def F_Cursor_term_told (R : List D → Option (D × DS)) : List D → Option (D × DS) := fnM 1 2 (fxOf [0]) (m_Cursor_term_told R)
theorem ok_Cursor_term_told {P : Program} {w : World} {K : PySem.W.Frag} {mg : Str → Option Value} {base : Heap} {f : Addr} {fd : FuncData} (F : Fun K "term_told" "Cursor.term_told" s_Cursor_term_told f fd) {nn : Nat} {R : List D → Option (D × DS)} (D_Cursor_factor_told : MethD P w K mg base (3 + 4 * nn + 2) "Cursor" "factor_told" 1 (F_Cursor_factor_told R)) (D_Cursor_here : MethD P w K mg base 1 "Cursor" "here" 1 F_Cursor_here) (c_Cursor : ClsD K mg "Cursor" ["word", "at", "deep"]) : FnOk P w K mg base CX0 (3 + 4 * nn + 3) f fd ["self"] (spF ⟨K, w⟩ mg 1 (fnM 1 2 (fxOf [0]) (m_Cursor_term_told R))) := by
  refine ok_def' (fx := fxOf [0]) (m := (m_Cursor_term_told R)) rfl rfl rfl F sc_Cursor_term_told fun cdv A outer s H E hr => ?_
  have nd := sc_Cursor_term_told.nd
  exact (xb_cons (xs_set 1 nd (xe_meth0 0 D_Cursor_factor_told (hr.mono (by omega))))
        (xb_cons (xs_while PassesOwn.never (xt_eq hr.units (xe_meth0 0 D_Cursor_here (hr.mono (by omega))) xe_str) (xb_cons (xs_augF 0 c_Cursor xe_int)
        (xb_one (xs_set 1 nd (xe_tup (xa_cons xe_str (xa_cons (xv 1) (xa_cons (xe_meth0 0 D_Cursor_factor_told (hr.mono (by omega))) xa_nil))))))))
        (xb_one (xs_ret (xmv 1)))))
abbrev s_Cursor_sum_told : Stmt := inClass (topS 13) 3
abbrev N_Cursor_sum_told : List Str := ["self", "found", "sign"]
theorem sc_Cursor_sum_told : FnScope N_Cursor_sum_told ["self"] (defScope s_Cursor_sum_told) := ⟨rfl, rfl, rfl, by decide +kernel, rfl, by decide +kernel, by decide +kernel⟩
def m_Cursor_sum_told (R : List D → Option (D × DS)) : MS := (mSeq (mAsg 1 (mMeth 0 "Cursor" "term_told" (F_Cursor_term_told R) []))
    (mSeq (mWhile (mAnd (mTst (mOp dNe (mMeth 0 "Cursor" "here" F_Cursor_here []) (mC (.str "")))) (mTst (mOp dIn (mMeth 0 "Cursor" "here" F_Cursor_here []) (mC (.str "+-"))))) (mSeq (mAsg 2 (mMeth 0 "Cursor" "here" F_Cursor_here []))
    (mSeq (mSetF 0 "Cursor" "at" (mAugV 0 "Cursor" "at" (fun a b => a + b) (mC (.int 1))))
    (mAsg 1 (mFn dTup (mCons (mVar 2) (mCons (mVar 1) (mCons (mMeth 0 "Cursor" "term_told" (F_Cursor_term_told R) []) mNil))))))))
    (mRet (mMove 1))))
def F_Cursor_sum_told : Nat → List D → Option (D × DS)
  | 0 => fun _ => none
  | n + 1 => fnM 1 3 (fxOf [0]) (m_Cursor_sum_told (F_Cursor_sum_told n))
theorem ok_Cursor_sum_told {P : Program} {w : World} {K : PySem.W.Frag} {mg : Str → Option Value} {base : Heap} {f : Addr} {fd : FuncData} (F : Fun K "sum_told" "Cursor.sum_told" s_Cursor_sum_told f fd) {nn : Nat} {R : List D → Option (D × DS)} (D_Cursor_here : MethD P w K mg base 1 "Cursor" "here" 1 F_Cursor_here) (D_Cursor_term_told : MethD P w K mg base (3 + 4 * nn + 3) "Cursor" "term_told" 1 (F_Cursor_term_told R)) (c_Cursor : ClsD K mg "Cursor" ["word", "at", "deep"]) : FnOk P w K mg base CX0 (3 + 4 * nn + 4) f fd ["self"] (spF ⟨K, w⟩ mg 1 (fnM 1 3 (fxOf [0]) (m_Cursor_sum_told R))) := by
  refine ok_def' (fx := fxOf [0]) (m := (m_Cursor_sum_told R)) rfl rfl rfl F sc_Cursor_sum_told fun cdv A outer s H E hr => ?_
  have nd := sc_Cursor_sum_told.nd
  exact (xb_cons (xs_set 1 nd (xe_meth0 0 D_Cursor_term_told (hr.mono (by omega))))
        (xb_cons (xs_while PassesOwn.never (xt_w (xw_and (xt_ne hr.units (xe_meth0 0 D_Cursor_here (hr.mono (by omega))) xe_str) (xw_and1 (xt_in (hu65 hr) (xe_meth0 0 D_Cursor_here (hr.mono (by omega))) xe_str)))) (xb_cons (xs_set 2 nd (xe_meth0 0 D_Cursor_here (hr.mono (by omega))))
        (xb_cons (xs_augF 0 c_Cursor xe_int)
        (xb_one (xs_set 1 nd (xe_tup (xa_cons (xv 2) (xa_cons (xv 1) (xa_cons (xe_meth0 0 D_Cursor_term_told (hr.mono (by omega))) xa_nil)))))))))
        (xb_one (xs_ret (xmv 1)))))
abbrev s_expression : Stmt := topS 14
abbrev N_expression : List Str := ["word", "cursor", "found"]
theorem sc_expression : FnScope N_expression ["word"] (defScope s_expression) := ⟨rfl, rfl, rfl, by decide +kernel, rfl, by decide +kernel, by decide +kernel⟩
def m_expression_0_0 : MS := (fun _ => none)
def m_expression_0 : MS := (mIf (mTst (mOp dGt (mFn dLen (mCons (mVar 0) mNil)) (mK c_MOST_SIGNS))) m_expression_0_0 mSkip)
def m_expression_1 : MS := (mAsg 1 (mMake "Cursor" F_Cursor_init [.bo 0]))
def m_expression_2 : MS := (mAsg 2 (mMeth 1 "Cursor" "sum_told" (F_Cursor_sum_told 12) []))
def m_expression_3_0 : MS := (fun _ => none)
def m_expression_3 : MS := (mIf (mTst (mOp dNe (mMeth 1 "Cursor" "here" F_Cursor_here []) (mC (.str "")))) m_expression_3_0 mSkip)
def m_expression_4 : MS := (mRet (mMove 2))
def m_expression : MS := (mSeq m_expression_0
    (mSeq m_expression_1
    (mSeq m_expression_2
    (mSeq m_expression_3
    m_expression_4))))
def F_expression : List D → Option (D × DS) := fnM 1 3 (fxOf [0]) m_expression
theorem ok_expression {P : Program} {w : World} {K : PySem.W.Frag} {mg : Str → Option Value} {base : Heap} {f : Addr} {fd : FuncData} (F : Fun K "expression" "expression" s_expression f fd) (D_Cursor_here : MethD P w K mg base 1 "Cursor" "here" 1 F_Cursor_here) (D_Cursor_init : MakeD P w K mg base 1 "Cursor" 2 F_Cursor_init) (D_Cursor_sum_told : MethD P w K mg base 51 "Cursor" "sum_told" 1 (F_Cursor_sum_told 12)) (z_len : mg "len" = none) (k_MOST_SIGNS : KV ⟨K, w⟩ mg "MOST_SIGNS" c_MOST_SIGNS) : FnOk P w K mg base CX0 52 f fd ["word"] (spF ⟨K, w⟩ mg 1 F_expression) := by
  refine ok_def' (fx := fxOf [0]) (m := m_expression) rfl rfl rfl F sc_expression fun cdv A outer s H E hr => ?_
  have nd := sc_expression.nd
  exact (xb_cons (xs_if (xt_gt (xe_callB callr_len calld_len (by rfl) z_len (by decide +kernel) (xa_cons (xv 0) xa_nil)) (xe_kv k_MOST_SIGNS)) (xb_one (xs_none _)) xb_nil)
        (xb_cons (xs_set 1 nd (xe_make D_Cursor_init (hr.mono (by decide)) (xr_bo 0 xr_nil)))
        (xb_cons (xs_set 2 nd (xe_meth0 1 D_Cursor_sum_told (hr.mono (by decide))))
        (xb_cons (xs_if (xt_ne hr.units (xe_meth0 1 D_Cursor_here (hr.mono (by decide))) xe_str) (xb_one (xs_none _)) xb_nil)
        (xb_one (xs_ret (xmv 2)))))))
abbrev s_worth : Stmt := topS 15
abbrev N_worth : List Str := ["e", "values", "one", "other"]
theorem sc_worth : FnScope N_worth ["e", "values"] (defScope s_worth) := ⟨rfl, rfl, rfl, by decide +kernel, rfl, by decide +kernel, by decide +kernel⟩
def m_worth (R : List D → Option (D × DS)) : MS := (mSeq (mIf (mTst (mOp dEq (orFz 0 (mLook 0 dIx (mC (.int 0)))) (mC (.str "number")))) (mRet (orFz 0 (mLook 0 dIx (mC (.int 1))))) mSkip)
    (mSeq (mIf (mTst (mOp dEq (orFz 0 (mLook 0 dIx (mC (.int 0)))) (mC (.str "box")))) (mRet (orFz 1 (mLookA 1 (orFz 0 (mLook 0 dIx (mC (.int 1))))))) mSkip)
    (mSeq (mAsg 2 (mCall R [.ex (orFz 0 (mLook 0 dIx (mC (.int 1)))), .bo 1]))
    (mSeq (mAsg 3 (mCall R [.ex (orFz 0 (mLook 0 dIx (mC (.int 2)))), .bo 1]))
    (mSeq (mIf (mTst (mOp dEq (orFz 0 (mLook 0 dIx (mC (.int 0)))) (mC (.str "+")))) (mRet (mOp dAdd (mVar 2) (mVar 3))) mSkip)
    (mSeq (mIf (mTst (mOp dEq (orFz 0 (mLook 0 dIx (mC (.int 0)))) (mC (.str "-")))) (mRet (mOp dSub (mVar 2) (mVar 3))) mSkip)
    (mRet (mOp dMul (mVar 2) (mVar 3)))))))))
def F_worth : Nat → List D → Option (D × DS)
  | 0 => fun _ => none
  | n + 1 => fnM 2 4 (fxOf [0, 1]) (m_worth (F_worth n))
theorem ok_worth {P : Program} {w : World} {K : PySem.W.Frag} {mg : Str → Option Value} {base : Heap} {f : Addr} {fd : FuncData} (F : Fun K "worth" "worth" s_worth f fd) {nn : Nat} {R : List D → Option (D × DS)} (D_worth : Def P w K mg base (1 + nn) "worth" 2 R) : FnOk P w K mg base CX0 (1 + nn + 1) f fd ["e", "values"] (spF ⟨K, w⟩ mg 2 (fnM 2 4 (fxOf [0, 1]) (m_worth R))) := by
  refine ok_def' (fx := fxOf [0, 1]) (m := (m_worth R)) rfl rfl rfl F sc_worth fun cdv A outer s H E hr => ?_
  have nd := sc_worth.nd
  exact (xb_cons (xs_if (xt_eq hr.units (xe_orFz 0 (xe_ixv 0 xe_int)) xe_str) (xb_one (xs_ret (xe_orFz 0 (xe_ixv 0 xe_int)))) xb_nil)
        (xb_cons (xs_if (xt_eq hr.units (xe_orFz 0 (xe_ixv 0 xe_int)) xe_str) (xb_one (xs_ret (xe_orFz 1 (xe_ixa 1 (hu65 hr) (xe_orFz 0 (xe_ixv 0 xe_int)))))) xb_nil)
        (xb_cons (xs_set 2 nd (xe_call D_worth (hr.mono (by omega)) (xr_ex (xe_orFz 0 (xe_ixv 0 xe_int)) (xr_bo 1 xr_nil))))
        (xb_cons (xs_set 3 nd (xe_call D_worth (hr.mono (by omega)) (xr_ex (xe_orFz 0 (xe_ixv 0 xe_int)) (xr_bo 1 xr_nil))))
        (xb_cons (xs_if (xt_eq hr.units (xe_orFz 0 (xe_ixv 0 xe_int)) xe_str) (xb_one (xs_ret (xe_add (xv 2) (xv 3)))) xb_nil)
        (xb_cons (xs_if (xt_eq hr.units (xe_orFz 0 (xe_ixv 0 xe_int)) xe_str) (xb_one (xs_ret (xe_sub (xv 2) (xv 3)))) xb_nil)
        (xb_one (xs_ret (xe_mul (xv 2) (xv 3))))))))))
abbrev s_law : Stmt := topS 21
abbrev N_law : List Str := ["script", "cell", "parts", "word", "far", "values"]
theorem sc_law : FnScope N_law ["script"] (defScope s_law) := ⟨rfl, rfl, rfl, by decide +kernel, rfl, by decide +kernel, by decide +kernel⟩
def m_law_0_0 : MS := (mAsg 2 (mCall F__law_parts [.bo 1]))
def m_law_0_1 : MS := (mAsg 3 (mMt dJoin (mC (.str "")) (mCons (mVar 2) mNil)))
def m_law_0_2 : MS := (mAsg 4 (mCall F__law_stir [.bo 1, .ex (mC (.int 40))]))
def m_law_0_3 : MS := (mAsg 5 (mDisp [((mC (.str "a")), (mOp dSub (mOp dMod (mVar 4) (mC (.int 41))) (mC (.int 20)))), ((mC (.str "bb")), (mOp dSub (mOp dMod (mOp dFdiv (mVar 4) (mC (.int 41))) (mC (.int 2001))) (mC (.int 1000)))), ((mC (.str "c")), (mOp dMod (mOp dFdiv (mVar 4) (mC (.int 100000))) (mC (.int 200))))]))
def m_law_0_4_0 : MS := (mRet (mC (.bl false)))
def m_law_0_4 : MS := (mIf (mAnd (mTst (mOp dLe (mFn dLen (mCons (mVar 3) mNil)) (mC (.int 60)))) (mTst (mOp dNe (mCall (F_worth 12) [.ex (mCall F_expression [.bo 3]), .bo 5]) (mCall F__law_due [.bo 2, .bo 5])))) m_law_0_4_0 mSkip)
def m_law_0 : MS := (mFor (mIt itemsL (mSl (mVar 0) oNo (oYes (mC (.int 63))))) (gNm 1) (mSeq m_law_0_0
    (mSeq m_law_0_1
    (mSeq m_law_0_2
    (mSeq m_law_0_3
    m_law_0_4)))))
def m_law_1 : MS := (mRet (mC (.bl true)))
def m_law : MS := (mSeq m_law_0
    m_law_1)
def F_law : List D → Option (D × DS) := fnM 1 6 (fxOf [0]) m_law
theorem ok_law {P : Program} {w : World} {K : PySem.W.Frag} {mg : Str → Option Value} {base : Heap} {f : Addr} {fd : FuncData} (F : Fun K "law" "law" s_law f fd) (D__law_due : Def P w K mg base 2 "_law_due" 2 F__law_due) (D__law_parts : Def P w K mg base 2 "_law_parts" 1 F__law_parts) (D__law_stir : Def P w K mg base 1 "_law_stir" 2 F__law_stir) (D_expression : Def P w K mg base 52 "expression" 1 F_expression) (D_worth : Def P w K mg base 13 "worth" 2 (F_worth 12)) (z_len : mg "len" = none) : FnOk P w K mg base CX0 53 f fd ["script"] (spF ⟨K, w⟩ mg 1 F_law) := by
  refine ok_def' (fx := fxOf [0]) (m := m_law) rfl rfl rfl F sc_law fun cdv A outer s H E hr => ?_
  have nd := sc_law.nd
  exact (xb_cons (xs_for PassesOwn.never rfl (xi_list (xe_sl (xv 0) xo_no (xo_yes xe_int))) (xg_name 1 nd) (xb_cons (xs_set 2 nd (xe_call D__law_parts (hr.mono (by decide)) (xr_bo 1 xr_nil)))
        (xb_cons (xs_set 3 nd (xe_join xe_str (xv 2)))
        (xb_cons (xs_set 4 nd (xe_call D__law_stir (hr.mono (by decide)) (xr_bo 1 (xr_ex xe_int xr_nil))))
        (xb_cons (xs_set 5 nd (xe_disp (xp_cons xe_str (xe_sub (xe_mod (xv 4) xe_int) xe_int) (xp_cons xe_str (xe_sub (xe_mod (xe_fdiv (xv 4) xe_int) xe_int) xe_int) (xp_cons xe_str (xe_mod (xe_fdiv (xv 4) xe_int) xe_int) xp_nil)))))
        (xb_one (xs_if (xt_w (xw_and (xt_le (xe_callB callr_len calld_len (by rfl) z_len (by decide +kernel) (xa_cons (xv 3) xa_nil)) xe_int) (xw_and1 (xt_ne hr.units (xe_call D_worth (hr.mono (by decide)) (xr_ex (xe_call D_expression (hr.mono (by decide)) (xr_bo 3 xr_nil)) (xr_bo 5 xr_nil))) (xe_call D__law_due (hr.mono (by decide)) (xr_bo 2 (xr_bo 5 xr_nil))))))) (xb_one (xs_ret xe_bl)) xb_nil)))))))
        (xb_one (xs_ret xe_bl)))
end My
set_option exponentiation.threshold 10000
namespace My
open PySem L2 Z
abbrev tI (i : Int) : D := .v (.int i)
abbrev tS (s : String) : D := .v (.str (Str.ofString s))
abbrev tN (i : Nat) : D := .v (.int (i : Int))
abbrev tT (s : Str) : D := .v (.str s)
def tC (l : List Nat) : D := .v (.str ⟨l.toArray⟩)
theorem clean_C1 {l : List Nat} : clean (tC l) = true := nrfl
theorem fz_C1 {l : List Nat} : fz (tC l) = tC l := nrfl
theorem range_tN (n : Nat) : rangeD 0 n = (List.range n).map tN := by
  unfold rangeD; apply List.map_congr_left; intro j _; simp
theorem cleans_mem {N : List D} (h : ∀ d ∈ N, clean d = true) : cleans N = true := by
  induction N with
  | nil => rfl
  | cons x N ih => simp only [cleans, h x (by simp), ih fun d hd => h d (by simp [hd]), Bool.and_self]
theorem cleans_map {α : Type} {f : α → D} {xs : List α} (h : ∀ x ∈ xs, clean (f x) = true) : cleans (xs.map f) = true := cleans_mem fun d hd => by
  obtain ⟨x, hx, rfl⟩ := List.mem_map.mp hd
  exact h x hx
theorem cut_take {α : Type} (xs : List α) (k : Nat) : cutL xs none (some (k : Int)) = xs.take k := by
  unfold cutL
  rw [HT.sIx_none, HT.sIx_nat]
  simp [List.take_eq_take_iff]
end My
set_option exponentiation.threshold 10000
namespace My
open PySem L2 Z
abbrev sN (n : Int) : Str := Str.ofString (toString n)
/-! numbers as words -/
def asc (w : Str) : Prop := ∀ c ∈ w.cps.toList, c < 128
def dig (c : Nat) : Bool := decide (48 ≤ c ∧ c ≤ 57)
def plainB : List Nat → Bool
  | [a] => dig a
  | [a, b] => !decide (a = 48) && dig a && dig b
  | [a, b, c] => !decide (a = 48) && dig a && dig b && dig c
  | _ => false
theorem dig_run : ∀ c ∈ List.range 128, dInB (tT ⟨#[c]⟩) (tS "0123456789") = some (dig c) := by decide +kernel
theorem dig_in {c : Nat} (h : c < 128) : dInB (tT ⟨#[c]⟩) (tS "0123456789") = some (dig c) := dig_run c (List.mem_range.mpr h)
theorem dLen_s {z : Str} (h : z.length ≤ 16777216) : dLen [tT z] = some (tN z.length) := by
  show (if z.length ≤ 16777216 then some (D.v (.int z.length)) else none) = _
  rw [if_pos h]
theorem len_l (l : List Nat) : (Str.mk ⟨l⟩).length = l.length := rfl
theorem dIx_s0 {c : Nat} {l : List Nat} (h : (Str.mk ⟨c :: l⟩).length ≤ 16777216) : dIx (tT ⟨⟨c :: l⟩⟩) (tI 0) = some (tT ⟨#[c]⟩) := by
  unfold dIx
  simp only [if_pos h, atI_z]
  rfl
theorem zero_iff {a : Nat} : (⟨#[a]⟩ : Str) = Str.ofString "0" ↔ a = 48 := by
  have : Str.ofString "0" = ⟨#[48]⟩ := by decide +kernel
  rw [this]
  simp
theorem pl_loop (x0 : Option D) : ∀ (l : List Nat), (∀ c ∈ l, c < 128) → lcL (gNm 1) (mTst (mOp dNin (mVar 1) (mK (D.v (V.str (Str.ofString "0123456789")))))) (mVar 1) [1] (l.map fun c => D.v (V.str ⟨#[c]⟩)) [x0, none] = some ((l.filter fun c => !dig c).map (fun c => D.v (V.str ⟨#[c]⟩)), [x0, none]) := by
  intro l
  induction l with
  | nil => intro _; rfl
  | cons c cs ih =>
    intro h
    have i1 := dig_in (h c (by simp))
    have ih := ih fun d hd => h d (by simp [hd])
    rw [List.map_cons, lcL_cons]
    cases hc : dig c
    · simp [fnM_k, mSeq_k, mIf_k, mIfE_k, mOp_k, mLook_k, mVar_k, mMove_k, mTst_k, mAnd_k, mOr_k, mNot_k, mAndV_k, mOrV_k, mNotV_k, mNeg_k, mAsg_k, mRet_k, mRetN, mDrop_k, mSkip, mC, mK, mCons_k, mNil, mFn_k, mSetIx_k, mAug_k, mAppend_k, mAsgT_k, mIt_k, mRngA_k, mFor_k, mLc_k, mCall_k, mArgs_nil, mArgs_ex, mArgs_bo, take_nil, take_ex, take_bo, put_nil, put_bo, put_ex, outs, fxOf, ofStr_inj, dAdd_int, dSub_eq, clean, cleans, mIsN_k, mIsNV_k, isN, mPutK_k, mNewK_k, dDictD_1, mFrz_k, orFz_k, fzAt_k, mPar_k, mEnum_k, mZip_k, mLookL_k, mMt_k, itemsS_1, dJoin_1, dStrF_1, dAdd_str, mChn_k, mRev_k, mExtend_k, mPop_k, mClear_k, mLookA_k, mLookR_k, mInV_k, mPairs_nil, mPairs_cons, mDisp_k, dMin2_1, dMax2_1, dAbs_1, dIntF_1, dIntF_2, isDic_d, isDic_v, isDic_t, isDic_k, isDic_l, dKey_i, dKey_s, dKx_i, dKx_s, dKin_i, dKin_s, getD_nil, getD_cons, hasK_nil, hasK_cons, putD_eq, mergeD_nil, mergeD_cons, dInF, dFdiv_eq, dMod_eq, dMul_r, dMul_l, dPow_eq, dShr_eq, dLt_eq, dLe_eq, dGt_eq, dGe_eq, dEq_int, dNe_int, dEq_bl, dNe_bl, dEq_str, dNe_str, atI_z, atI_lit, atI_n, ixN_lit, ixN_n, fz, fzs, fzO, mYes, wipeD, mBrk, mCnt, seqK_1, seqK_2, seqK_3, seqK_4, seqK_5, ifK_1, ifK_2, ifK_3, opK3_1, opK3_2, opK2_1, opK2_2, opK_1, opK_2, lookK3_1, lookK3_2, lookK2_1, lookK2_2, lookK1_1, lookK1_2, lookK_1, lookK_2, varK_1, varK_2, moveK_1, moveK_2, tstK_1, tstK_2, andK_1, andK_2, andK_3, orK_1, orK_2, orK_3, notK_1, notK_2, andVK_1, andVK_2, andVK_3, orVK_1, orVK_2, orVK_3, notVK_1, notVK_2, negK_1, negK_2, asgK_1, asgK_2, retK_1, retK_2, dropK_1, dropK_2, consK2_1, consK2_2, consK_1, consK_2, fnK_1, fnK_2, setIxK3_1, setIxK3_2, setIxK2_1, setIxK2_2, setIxK1_1, setIxK1_2, setIxK0_1, setIxK0_2, setIxK_1, setIxK_2, augK2_1, augK2_2, augK_1, augK_2, appendK1_1, appendK1_2, appendK0_1, appendK0_2, appendK_1, appendK_2, asgTK2_1, asgTK2_2, asgTK_1, asgTK_2, itK2_1, itK2_2, itK_1, itK_2, rngK_1, rngK_2, forK_1, forK_2, turnK_1, turnK_2, turnK_3, turnK_4, turnK_5, turnK0_1, turnK0_2, lcK1_1, lcK1_2, lcK_1, lcK_2, lcT2_1, lcT2_2, lcT1_1, lcT1_2, lcT1_3, lcT0_1, lcT0_2, callK2_1, callK2_2, callK1_1, callK1_2, callK_1, callK_2, argK2_1, argK2_2, argK_1, argK_2, argB_1, argB_2, takeK_1, takeK_2, takeB_1, takeB_2, fnMK_1, fnMK_2, fnMK_3, isNK_1, isNK_2, isNVK_1, isNVK_2, chnK3_1, chnK3_2, chnK2_1, chnK2_2, chnK_1, chnK_2, revK_1, revK_2, extendK1_1, extendK1_2, extendK0_1, extendK0_2, extendK0_3, extendK_1, extendK_2, popK2_1, popK2_2, popK_1, popK_2, clearK_1, clearK_2, lookAK_1, lookAK_2, lookRK2_1, lookRK2_2, lookRK_1, lookRK_2, inVK_1, inVK_2, pairsK4_1, pairsK4_2, pairsK3_1, pairsK3_2, pairsK2_1, pairsK2_2, pairsK_1, pairsK_2, dispK2_1, dispK2_2, dispK_1, dispK_2, mergeK__1, mergeK__2, parK2_1, parK2_2, parK_1, parK_2, enumK_1, enumK_2, zipK_1, zipK_2, lookLK_1, lookLK_2, mtK2_1, mtK2_2, mtK_1, mtK_2, orFzK_1, orFzK_2, fzAtK_1, fzAtK_2, frzK_1, frzK_2, putKK5_1, putKK5_2, putKK4_1, putKK4_2, putKK3_1, putKK3_2, putKK2_1, putKK2_2, putKK1_1, putKK1_2, putKK_1, putKK_2, dIx_l, dIx_t, dIx_k, gNl_1, csK_1, gCs_1, gTu_1, itemsL_1, itemsT_1, mRng_1, mRng_2, dTup_1, dLst_1, setSlot_1, setK_1, gNm_1, dLen_l, dLen_t, dTuple_l, dTuple_t, dList_l, dList_t, oNo_1, oYes_k, oK_1, mSl_k, slK_1, slK1_1, slK2_1, dCut_l, dCut_t, dNin, i1, ih, hc]
    · simp [fnM_k, mSeq_k, mIf_k, mIfE_k, mOp_k, mLook_k, mVar_k, mMove_k, mTst_k, mAnd_k, mOr_k, mNot_k, mAndV_k, mOrV_k, mNotV_k, mNeg_k, mAsg_k, mRet_k, mRetN, mDrop_k, mSkip, mC, mK, mCons_k, mNil, mFn_k, mSetIx_k, mAug_k, mAppend_k, mAsgT_k, mIt_k, mRngA_k, mFor_k, mLc_k, mCall_k, mArgs_nil, mArgs_ex, mArgs_bo, take_nil, take_ex, take_bo, put_nil, put_bo, put_ex, outs, fxOf, ofStr_inj, dAdd_int, dSub_eq, clean, cleans, mIsN_k, mIsNV_k, isN, mPutK_k, mNewK_k, dDictD_1, mFrz_k, orFz_k, fzAt_k, mPar_k, mEnum_k, mZip_k, mLookL_k, mMt_k, itemsS_1, dJoin_1, dStrF_1, dAdd_str, mChn_k, mRev_k, mExtend_k, mPop_k, mClear_k, mLookA_k, mLookR_k, mInV_k, mPairs_nil, mPairs_cons, mDisp_k, dMin2_1, dMax2_1, dAbs_1, dIntF_1, dIntF_2, isDic_d, isDic_v, isDic_t, isDic_k, isDic_l, dKey_i, dKey_s, dKx_i, dKx_s, dKin_i, dKin_s, getD_nil, getD_cons, hasK_nil, hasK_cons, putD_eq, mergeD_nil, mergeD_cons, dInF, dFdiv_eq, dMod_eq, dMul_r, dMul_l, dPow_eq, dShr_eq, dLt_eq, dLe_eq, dGt_eq, dGe_eq, dEq_int, dNe_int, dEq_bl, dNe_bl, dEq_str, dNe_str, atI_z, atI_lit, atI_n, ixN_lit, ixN_n, fz, fzs, fzO, mYes, wipeD, mBrk, mCnt, seqK_1, seqK_2, seqK_3, seqK_4, seqK_5, ifK_1, ifK_2, ifK_3, opK3_1, opK3_2, opK2_1, opK2_2, opK_1, opK_2, lookK3_1, lookK3_2, lookK2_1, lookK2_2, lookK1_1, lookK1_2, lookK_1, lookK_2, varK_1, varK_2, moveK_1, moveK_2, tstK_1, tstK_2, andK_1, andK_2, andK_3, orK_1, orK_2, orK_3, notK_1, notK_2, andVK_1, andVK_2, andVK_3, orVK_1, orVK_2, orVK_3, notVK_1, notVK_2, negK_1, negK_2, asgK_1, asgK_2, retK_1, retK_2, dropK_1, dropK_2, consK2_1, consK2_2, consK_1, consK_2, fnK_1, fnK_2, setIxK3_1, setIxK3_2, setIxK2_1, setIxK2_2, setIxK1_1, setIxK1_2, setIxK0_1, setIxK0_2, setIxK_1, setIxK_2, augK2_1, augK2_2, augK_1, augK_2, appendK1_1, appendK1_2, appendK0_1, appendK0_2, appendK_1, appendK_2, asgTK2_1, asgTK2_2, asgTK_1, asgTK_2, itK2_1, itK2_2, itK_1, itK_2, rngK_1, rngK_2, forK_1, forK_2, turnK_1, turnK_2, turnK_3, turnK_4, turnK_5, turnK0_1, turnK0_2, lcK1_1, lcK1_2, lcK_1, lcK_2, lcT2_1, lcT2_2, lcT1_1, lcT1_2, lcT1_3, lcT0_1, lcT0_2, callK2_1, callK2_2, callK1_1, callK1_2, callK_1, callK_2, argK2_1, argK2_2, argK_1, argK_2, argB_1, argB_2, takeK_1, takeK_2, takeB_1, takeB_2, fnMK_1, fnMK_2, fnMK_3, isNK_1, isNK_2, isNVK_1, isNVK_2, chnK3_1, chnK3_2, chnK2_1, chnK2_2, chnK_1, chnK_2, revK_1, revK_2, extendK1_1, extendK1_2, extendK0_1, extendK0_2, extendK0_3, extendK_1, extendK_2, popK2_1, popK2_2, popK_1, popK_2, clearK_1, clearK_2, lookAK_1, lookAK_2, lookRK2_1, lookRK2_2, lookRK_1, lookRK_2, inVK_1, inVK_2, pairsK4_1, pairsK4_2, pairsK3_1, pairsK3_2, pairsK2_1, pairsK2_2, pairsK_1, pairsK_2, dispK2_1, dispK2_2, dispK_1, dispK_2, mergeK__1, mergeK__2, parK2_1, parK2_2, parK_1, parK_2, enumK_1, enumK_2, zipK_1, zipK_2, lookLK_1, lookLK_2, mtK2_1, mtK2_2, mtK_1, mtK_2, orFzK_1, orFzK_2, fzAtK_1, fzAtK_2, frzK_1, frzK_2, putKK5_1, putKK5_2, putKK4_1, putKK4_2, putKK3_1, putKK3_2, putKK2_1, putKK2_2, putKK1_1, putKK1_2, putKK_1, putKK_2, dIx_l, dIx_t, dIx_k, gNl_1, csK_1, gCs_1, gTu_1, itemsL_1, itemsT_1, mRng_1, mRng_2, dTup_1, dLst_1, setSlot_1, setK_1, gNm_1, dLen_l, dLen_t, dTuple_l, dTuple_t, dList_l, dList_t, oNo_1, oYes_k, oK_1, mSl_k, slK_1, slK1_1, slK2_1, dCut_l, dCut_t, dNin, i1, ih, hc]
theorem lay_ch {l : List Nat} (h : ∀ c ∈ l, c < 128) : lays 5 (l.map (fun c => D.v (V.str ⟨#[c]⟩))) = true := lays_mem fun d hd => by
  obtain ⟨c, hc, rfl⟩ := List.mem_map.mp hd
  have hk : okT (⟨#[c]⟩ : Str) = true := (okT_iff _).mpr fun e he => by
    have : e = c := by simpa using he
    have := h c hc
    omega
  simp [lay, hk]
theorem plainN_ok (w : Str) (hw : asc w) (hl : w.length ≤ 16777216) : F_is_plain_number [tT w] = some (.v (.bl (plainB w.cps.toList)), [some (tT w)]) := by
  obtain ⟨⟨l⟩⟩ := w
  apply ok_is
  match l with
  | [] =>
    have e1 : dLen [tT ⟨⟨[]⟩⟩] = some (tI 0) := by rw [dLen_s hl]; simp [len_l] <;> omega
    have e2 := e1
    simp [ok_some, ok_none, br_true, br_false, req_true, req_false, okFz_b, dAdd_lst, dAdd_tp, take_nil, take_ex, take_bo, put_nil, put_bo, put_ex, outs, fxOf, ofStr_inj, dAdd_int, dSub_eq, clean, cleans, isN, dDictD_1, itemsS_1, dJoin_1, dStrF_1, dAdd_str, mPairs_nil, mPairs_cons, dMin2_1, dMax2_1, dAbs_1, dIntF_1, dIntF_2, isDic_d, isDic_v, isDic_t, isDic_l, dKey_i, dKey_s, dKx_i, dKx_s, dKin_i, dKin_s, getD_nil, getD_cons, hasK_nil, hasK_cons, putD_eq, mergeD_nil, mergeD_cons, dInF, dFdiv_eq, dMod_eq, dMul_r, dMul_l, dPow_eq, dShr_eq, dLt_eq, dLe_eq, dGt_eq, dGe_eq, dEq_int, dNe_int, dEq_bl, dNe_bl, dEq_str, dNe_str, atI_z, atI_lit, atI_n, ixN_lit, ixN_n, fz, fzs, fzO, wipeD, dIx_l, dIx_t, gNl_1, csK_1, gCs_1, gTu_1, itemsL_1, itemsT_1, mRng_1, mRng_2, dTup_1, dLst_1, setSlot_1, setK_1, gNm_1, dLen_l, dLen_t, dTuple_l, dTuple_t, dList_l, dList_t, oNo_1, oK_1, slK_1, slK1_1, slK2_1, dCut_l, dCut_t, isi_bool_bool, isi_bool_int, isi_bool_str, isi_bool_tuple, isi_bool_list, isi_int_bool, isi_int_int, isi_int_str, isi_int_tuple, isi_int_list, isi_str_bool, isi_str_int, isi_str_str, isi_str_tuple, isi_str_list, isi_tuple_bool, isi_tuple_int, isi_tuple_str, isi_tuple_tuple, isi_tuple_list, isi_list_bool, isi_list_int, isi_list_str, isi_list_tuple, isi_list_list, isi_nonetype_bool, isi_nonetype_int, isi_nonetype_str, isi_nonetype_tuple, isi_nonetype_list, isi_T, F_is_plain_number, m_is_plain_number, m_is_plain_number_0, m_is_plain_number_0_0, m_is_plain_number_1, plainB, c_LONGEST_NUMBER, c_FIGURES, e1, e2]
  | [a] =>
    have e1 : dLen [tT ⟨⟨[a]⟩⟩] = some (tI 1) := by rw [dLen_s hl]; simp [len_l] <;> omega
    have e2 : dIx (tT ⟨⟨[a]⟩⟩) (tI 0) = some (tT ⟨#[a]⟩) := dIx_s0 hl
    have hd := pl_loop (some (tT ⟨⟨[a]⟩⟩)) [a] hw
    simp only [List.map_cons, List.map_nil] at hd
    simp [ok_some, ok_none, br_true, br_false, req_true, req_false, okFz_b, dAdd_lst, dAdd_tp, take_nil, take_ex, take_bo, put_nil, put_bo, put_ex, outs, fxOf, ofStr_inj, dAdd_int, dSub_eq, clean, cleans, isN, dDictD_1, itemsS_1, dJoin_1, dStrF_1, dAdd_str, mPairs_nil, mPairs_cons, dMin2_1, dMax2_1, dAbs_1, dIntF_1, dIntF_2, isDic_d, isDic_v, isDic_t, isDic_l, dKey_i, dKey_s, dKx_i, dKx_s, dKin_i, dKin_s, getD_nil, getD_cons, hasK_nil, hasK_cons, putD_eq, mergeD_nil, mergeD_cons, dInF, dFdiv_eq, dMod_eq, dMul_r, dMul_l, dPow_eq, dShr_eq, dLt_eq, dLe_eq, dGt_eq, dGe_eq, dEq_int, dNe_int, dEq_bl, dNe_bl, dEq_str, dNe_str, atI_z, atI_lit, atI_n, ixN_lit, ixN_n, fz, fzs, fzO, wipeD, dIx_l, dIx_t, gNl_1, csK_1, gCs_1, gTu_1, itemsL_1, itemsT_1, mRng_1, mRng_2, dTup_1, dLst_1, setSlot_1, setK_1, gNm_1, dLen_l, dLen_t, dTuple_l, dTuple_t, dList_l, dList_t, oNo_1, oK_1, slK_1, slK1_1, slK2_1, dCut_l, dCut_t, isi_bool_bool, isi_bool_int, isi_bool_str, isi_bool_tuple, isi_bool_list, isi_int_bool, isi_int_int, isi_int_str, isi_int_tuple, isi_int_list, isi_str_bool, isi_str_int, isi_str_str, isi_str_tuple, isi_str_list, isi_tuple_bool, isi_tuple_int, isi_tuple_str, isi_tuple_tuple, isi_tuple_list, isi_list_bool, isi_list_int, isi_list_str, isi_list_tuple, isi_list_list, isi_nonetype_bool, isi_nonetype_int, isi_nonetype_str, isi_nonetype_tuple, isi_nonetype_list, isi_T, F_is_plain_number, m_is_plain_number, m_is_plain_number_0, m_is_plain_number_0_0, m_is_plain_number_1, plainB, c_LONGEST_NUMBER, c_FIGURES, e1, e2]
    refine br_mk (fun h => ?_) (fun h => ?_)
    · have ha := zero_iff.mp h
      subst ha
      simp [ok_some, ok_none, br_true, br_false, req_true, req_false, okFz_b, dAdd_lst, dAdd_tp, take_nil, take_ex, take_bo, put_nil, put_bo, put_ex, outs, fxOf, ofStr_inj, dAdd_int, dSub_eq, clean, cleans, isN, dDictD_1, itemsS_1, dJoin_1, dStrF_1, dAdd_str, mPairs_nil, mPairs_cons, dMin2_1, dMax2_1, dAbs_1, dIntF_1, dIntF_2, isDic_d, isDic_v, isDic_t, isDic_l, dKey_i, dKey_s, dKx_i, dKx_s, dKin_i, dKin_s, getD_nil, getD_cons, hasK_nil, hasK_cons, putD_eq, mergeD_nil, mergeD_cons, dInF, dFdiv_eq, dMod_eq, dMul_r, dMul_l, dPow_eq, dShr_eq, dLt_eq, dLe_eq, dGt_eq, dGe_eq, dEq_int, dNe_int, dEq_bl, dNe_bl, dEq_str, dNe_str, atI_z, atI_lit, atI_n, ixN_lit, ixN_n, fz, fzs, fzO, wipeD, dIx_l, dIx_t, gNl_1, csK_1, gCs_1, gTu_1, itemsL_1, itemsT_1, mRng_1, mRng_2, dTup_1, dLst_1, setSlot_1, setK_1, gNm_1, dLen_l, dLen_t, dTuple_l, dTuple_t, dList_l, dList_t, oNo_1, oK_1, slK_1, slK1_1, slK2_1, dCut_l, dCut_t, isi_bool_bool, isi_bool_int, isi_bool_str, isi_bool_tuple, isi_bool_list, isi_int_bool, isi_int_int, isi_int_str, isi_int_tuple, isi_int_list, isi_str_bool, isi_str_int, isi_str_str, isi_str_tuple, isi_str_list, isi_tuple_bool, isi_tuple_int, isi_tuple_str, isi_tuple_tuple, isi_tuple_list, isi_list_bool, isi_list_int, isi_list_str, isi_list_tuple, isi_list_list, isi_nonetype_bool, isi_nonetype_int, isi_nonetype_str, isi_nonetype_tuple, isi_nonetype_list, isi_T, F_is_plain_number, m_is_plain_number, m_is_plain_number_0, m_is_plain_number_0_0, m_is_plain_number_1, plainB, c_LONGEST_NUMBER, c_FIGURES, e1, e2]
      refine br_neg (fun z => z (by decide +kernel)) ?_
      simp [ok_some, ok_none, br_true, br_false, req_true, req_false, okFz_b, dAdd_lst, dAdd_tp, take_nil, take_ex, take_bo, put_nil, put_bo, put_ex, outs, fxOf, ofStr_inj, dAdd_int, dSub_eq, clean, cleans, isN, dDictD_1, itemsS_1, dJoin_1, dStrF_1, dAdd_str, mPairs_nil, mPairs_cons, dMin2_1, dMax2_1, dAbs_1, dIntF_1, dIntF_2, isDic_d, isDic_v, isDic_t, isDic_l, dKey_i, dKey_s, dKx_i, dKx_s, dKin_i, dKin_s, getD_nil, getD_cons, hasK_nil, hasK_cons, putD_eq, mergeD_nil, mergeD_cons, dInF, dFdiv_eq, dMod_eq, dMul_r, dMul_l, dPow_eq, dShr_eq, dLt_eq, dLe_eq, dGt_eq, dGe_eq, dEq_int, dNe_int, dEq_bl, dNe_bl, dEq_str, dNe_str, atI_z, atI_lit, atI_n, ixN_lit, ixN_n, fz, fzs, fzO, wipeD, dIx_l, dIx_t, gNl_1, csK_1, gCs_1, gTu_1, itemsL_1, itemsT_1, mRng_1, mRng_2, dTup_1, dLst_1, setSlot_1, setK_1, gNm_1, dLen_l, dLen_t, dTuple_l, dTuple_t, dList_l, dList_t, oNo_1, oK_1, slK_1, slK1_1, slK2_1, dCut_l, dCut_t, isi_bool_bool, isi_bool_int, isi_bool_str, isi_bool_tuple, isi_bool_list, isi_int_bool, isi_int_int, isi_int_str, isi_int_tuple, isi_int_list, isi_str_bool, isi_str_int, isi_str_str, isi_str_tuple, isi_str_list, isi_tuple_bool, isi_tuple_int, isi_tuple_str, isi_tuple_tuple, isi_tuple_list, isi_list_bool, isi_list_int, isi_list_str, isi_list_tuple, isi_list_list, isi_nonetype_bool, isi_nonetype_int, isi_nonetype_str, isi_nonetype_tuple, isi_nonetype_list, isi_T, F_is_plain_number, m_is_plain_number, m_is_plain_number_0, m_is_plain_number_0_0, m_is_plain_number_1, plainB, c_LONGEST_NUMBER, c_FIGURES, e1, e2, ↓hd]
      rw [dEq_nil (lay_ch (fun d hd => hw d ((List.mem_filter.mp hd).1))) (by decide)]
      simp [ok_some, ok_none, br_true, br_false, req_true, req_false, okFz_b, dAdd_lst, dAdd_tp, take_nil, take_ex, take_bo, put_nil, put_bo, put_ex, outs, fxOf, ofStr_inj, dAdd_int, dSub_eq, clean, cleans, isN, dDictD_1, itemsS_1, dJoin_1, dStrF_1, dAdd_str, mPairs_nil, mPairs_cons, dMin2_1, dMax2_1, dAbs_1, dIntF_1, dIntF_2, isDic_d, isDic_v, isDic_t, isDic_l, dKey_i, dKey_s, dKx_i, dKx_s, dKin_i, dKin_s, getD_nil, getD_cons, hasK_nil, hasK_cons, putD_eq, mergeD_nil, mergeD_cons, dInF, dFdiv_eq, dMod_eq, dMul_r, dMul_l, dPow_eq, dShr_eq, dLt_eq, dLe_eq, dGt_eq, dGe_eq, dEq_int, dNe_int, dEq_bl, dNe_bl, dEq_str, dNe_str, atI_z, atI_lit, atI_n, ixN_lit, ixN_n, fz, fzs, fzO, wipeD, dIx_l, dIx_t, gNl_1, csK_1, gCs_1, gTu_1, itemsL_1, itemsT_1, mRng_1, mRng_2, dTup_1, dLst_1, setSlot_1, setK_1, gNm_1, dLen_l, dLen_t, dTuple_l, dTuple_t, dList_l, dList_t, oNo_1, oK_1, slK_1, slK1_1, slK2_1, dCut_l, dCut_t, isi_bool_bool, isi_bool_int, isi_bool_str, isi_bool_tuple, isi_bool_list, isi_int_bool, isi_int_int, isi_int_str, isi_int_tuple, isi_int_list, isi_str_bool, isi_str_int, isi_str_str, isi_str_tuple, isi_str_list, isi_tuple_bool, isi_tuple_int, isi_tuple_str, isi_tuple_tuple, isi_tuple_list, isi_list_bool, isi_list_int, isi_list_str, isi_list_tuple, isi_list_list, isi_nonetype_bool, isi_nonetype_int, isi_nonetype_str, isi_nonetype_tuple, isi_nonetype_list, isi_T]
      simp only [List.filter_cons, List.filter_nil]
      decide
    · have ha : a ≠ 48 := fun z => h (zero_iff.mpr z)
      simp [ok_some, ok_none, br_true, br_false, req_true, req_false, okFz_b, dAdd_lst, dAdd_tp, take_nil, take_ex, take_bo, put_nil, put_bo, put_ex, outs, fxOf, ofStr_inj, dAdd_int, dSub_eq, clean, cleans, isN, dDictD_1, itemsS_1, dJoin_1, dStrF_1, dAdd_str, mPairs_nil, mPairs_cons, dMin2_1, dMax2_1, dAbs_1, dIntF_1, dIntF_2, isDic_d, isDic_v, isDic_t, isDic_l, dKey_i, dKey_s, dKx_i, dKx_s, dKin_i, dKin_s, getD_nil, getD_cons, hasK_nil, hasK_cons, putD_eq, mergeD_nil, mergeD_cons, dInF, dFdiv_eq, dMod_eq, dMul_r, dMul_l, dPow_eq, dShr_eq, dLt_eq, dLe_eq, dGt_eq, dGe_eq, dEq_int, dNe_int, dEq_bl, dNe_bl, dEq_str, dNe_str, atI_z, atI_lit, atI_n, ixN_lit, ixN_n, fz, fzs, fzO, wipeD, dIx_l, dIx_t, gNl_1, csK_1, gCs_1, gTu_1, itemsL_1, itemsT_1, mRng_1, mRng_2, dTup_1, dLst_1, setSlot_1, setK_1, gNm_1, dLen_l, dLen_t, dTuple_l, dTuple_t, dList_l, dList_t, oNo_1, oK_1, slK_1, slK1_1, slK2_1, dCut_l, dCut_t, isi_bool_bool, isi_bool_int, isi_bool_str, isi_bool_tuple, isi_bool_list, isi_int_bool, isi_int_int, isi_int_str, isi_int_tuple, isi_int_list, isi_str_bool, isi_str_int, isi_str_str, isi_str_tuple, isi_str_list, isi_tuple_bool, isi_tuple_int, isi_tuple_str, isi_tuple_tuple, isi_tuple_list, isi_list_bool, isi_list_int, isi_list_str, isi_list_tuple, isi_list_list, isi_nonetype_bool, isi_nonetype_int, isi_nonetype_str, isi_nonetype_tuple, isi_nonetype_list, isi_T, F_is_plain_number, m_is_plain_number, m_is_plain_number_0, m_is_plain_number_0_0, m_is_plain_number_1, plainB, c_LONGEST_NUMBER, c_FIGURES, e1, e2, ↓hd]
      rw [dEq_nil (lay_ch (fun d hd => hw d ((List.mem_filter.mp hd).1))) (by decide)]
      simp [ok_some, ok_none, br_true, br_false, req_true, req_false, okFz_b, dAdd_lst, dAdd_tp, take_nil, take_ex, take_bo, put_nil, put_bo, put_ex, outs, fxOf, ofStr_inj, dAdd_int, dSub_eq, clean, cleans, isN, dDictD_1, itemsS_1, dJoin_1, dStrF_1, dAdd_str, mPairs_nil, mPairs_cons, dMin2_1, dMax2_1, dAbs_1, dIntF_1, dIntF_2, isDic_d, isDic_v, isDic_t, isDic_l, dKey_i, dKey_s, dKx_i, dKx_s, dKin_i, dKin_s, getD_nil, getD_cons, hasK_nil, hasK_cons, putD_eq, mergeD_nil, mergeD_cons, dInF, dFdiv_eq, dMod_eq, dMul_r, dMul_l, dPow_eq, dShr_eq, dLt_eq, dLe_eq, dGt_eq, dGe_eq, dEq_int, dNe_int, dEq_bl, dNe_bl, dEq_str, dNe_str, atI_z, atI_lit, atI_n, ixN_lit, ixN_n, fz, fzs, fzO, wipeD, dIx_l, dIx_t, gNl_1, csK_1, gCs_1, gTu_1, itemsL_1, itemsT_1, mRng_1, mRng_2, dTup_1, dLst_1, setSlot_1, setK_1, gNm_1, dLen_l, dLen_t, dTuple_l, dTuple_t, dList_l, dList_t, oNo_1, oK_1, slK_1, slK1_1, slK2_1, dCut_l, dCut_t, isi_bool_bool, isi_bool_int, isi_bool_str, isi_bool_tuple, isi_bool_list, isi_int_bool, isi_int_int, isi_int_str, isi_int_tuple, isi_int_list, isi_str_bool, isi_str_int, isi_str_str, isi_str_tuple, isi_str_list, isi_tuple_bool, isi_tuple_int, isi_tuple_str, isi_tuple_tuple, isi_tuple_list, isi_list_bool, isi_list_int, isi_list_str, isi_list_tuple, isi_list_list, isi_nonetype_bool, isi_nonetype_int, isi_nonetype_str, isi_nonetype_tuple, isi_nonetype_list, isi_T]
      cases hA : dig a <;> simp [hA]
  | [a, b] =>
    have e1 : dLen [tT ⟨⟨[a, b]⟩⟩] = some (tI 2) := by rw [dLen_s hl]; simp [len_l] <;> omega
    have e2 : dIx (tT ⟨⟨[a, b]⟩⟩) (tI 0) = some (tT ⟨#[a]⟩) := dIx_s0 hl
    have hd := pl_loop (some (tT ⟨⟨[a, b]⟩⟩)) [a, b] hw
    simp only [List.map_cons, List.map_nil] at hd
    simp [ok_some, ok_none, br_true, br_false, req_true, req_false, okFz_b, dAdd_lst, dAdd_tp, take_nil, take_ex, take_bo, put_nil, put_bo, put_ex, outs, fxOf, ofStr_inj, dAdd_int, dSub_eq, clean, cleans, isN, dDictD_1, itemsS_1, dJoin_1, dStrF_1, dAdd_str, mPairs_nil, mPairs_cons, dMin2_1, dMax2_1, dAbs_1, dIntF_1, dIntF_2, isDic_d, isDic_v, isDic_t, isDic_l, dKey_i, dKey_s, dKx_i, dKx_s, dKin_i, dKin_s, getD_nil, getD_cons, hasK_nil, hasK_cons, putD_eq, mergeD_nil, mergeD_cons, dInF, dFdiv_eq, dMod_eq, dMul_r, dMul_l, dPow_eq, dShr_eq, dLt_eq, dLe_eq, dGt_eq, dGe_eq, dEq_int, dNe_int, dEq_bl, dNe_bl, dEq_str, dNe_str, atI_z, atI_lit, atI_n, ixN_lit, ixN_n, fz, fzs, fzO, wipeD, dIx_l, dIx_t, gNl_1, csK_1, gCs_1, gTu_1, itemsL_1, itemsT_1, mRng_1, mRng_2, dTup_1, dLst_1, setSlot_1, setK_1, gNm_1, dLen_l, dLen_t, dTuple_l, dTuple_t, dList_l, dList_t, oNo_1, oK_1, slK_1, slK1_1, slK2_1, dCut_l, dCut_t, isi_bool_bool, isi_bool_int, isi_bool_str, isi_bool_tuple, isi_bool_list, isi_int_bool, isi_int_int, isi_int_str, isi_int_tuple, isi_int_list, isi_str_bool, isi_str_int, isi_str_str, isi_str_tuple, isi_str_list, isi_tuple_bool, isi_tuple_int, isi_tuple_str, isi_tuple_tuple, isi_tuple_list, isi_list_bool, isi_list_int, isi_list_str, isi_list_tuple, isi_list_list, isi_nonetype_bool, isi_nonetype_int, isi_nonetype_str, isi_nonetype_tuple, isi_nonetype_list, isi_T, F_is_plain_number, m_is_plain_number, m_is_plain_number_0, m_is_plain_number_0_0, m_is_plain_number_1, plainB, c_LONGEST_NUMBER, c_FIGURES, e1, e2]
    refine br_mk (fun h => ?_) (fun h => ?_)
    · have ha := zero_iff.mp h
      subst ha
      simp [ok_some, ok_none, br_true, br_false, req_true, req_false, okFz_b, dAdd_lst, dAdd_tp, take_nil, take_ex, take_bo, put_nil, put_bo, put_ex, outs, fxOf, ofStr_inj, dAdd_int, dSub_eq, clean, cleans, isN, dDictD_1, itemsS_1, dJoin_1, dStrF_1, dAdd_str, mPairs_nil, mPairs_cons, dMin2_1, dMax2_1, dAbs_1, dIntF_1, dIntF_2, isDic_d, isDic_v, isDic_t, isDic_l, dKey_i, dKey_s, dKx_i, dKx_s, dKin_i, dKin_s, getD_nil, getD_cons, hasK_nil, hasK_cons, putD_eq, mergeD_nil, mergeD_cons, dInF, dFdiv_eq, dMod_eq, dMul_r, dMul_l, dPow_eq, dShr_eq, dLt_eq, dLe_eq, dGt_eq, dGe_eq, dEq_int, dNe_int, dEq_bl, dNe_bl, dEq_str, dNe_str, atI_z, atI_lit, atI_n, ixN_lit, ixN_n, fz, fzs, fzO, wipeD, dIx_l, dIx_t, gNl_1, csK_1, gCs_1, gTu_1, itemsL_1, itemsT_1, mRng_1, mRng_2, dTup_1, dLst_1, setSlot_1, setK_1, gNm_1, dLen_l, dLen_t, dTuple_l, dTuple_t, dList_l, dList_t, oNo_1, oK_1, slK_1, slK1_1, slK2_1, dCut_l, dCut_t, isi_bool_bool, isi_bool_int, isi_bool_str, isi_bool_tuple, isi_bool_list, isi_int_bool, isi_int_int, isi_int_str, isi_int_tuple, isi_int_list, isi_str_bool, isi_str_int, isi_str_str, isi_str_tuple, isi_str_list, isi_tuple_bool, isi_tuple_int, isi_tuple_str, isi_tuple_tuple, isi_tuple_list, isi_list_bool, isi_list_int, isi_list_str, isi_list_tuple, isi_list_list, isi_nonetype_bool, isi_nonetype_int, isi_nonetype_str, isi_nonetype_tuple, isi_nonetype_list, isi_T, F_is_plain_number, m_is_plain_number, m_is_plain_number_0, m_is_plain_number_0_0, m_is_plain_number_1, plainB, c_LONGEST_NUMBER, c_FIGURES, e1, e2]
      refine br_pos (fun z => ?_) ?_
      · have z9 := congrArg (fun s : Str => s.cps.size) z
        simp at z9
        exact absurd z9 (by decide +kernel)
      simp [ok_some, ok_none, br_true, br_false, req_true, req_false, okFz_b, dAdd_lst, dAdd_tp, take_nil, take_ex, take_bo, put_nil, put_bo, put_ex, outs, fxOf, ofStr_inj, dAdd_int, dSub_eq, clean, cleans, isN, dDictD_1, itemsS_1, dJoin_1, dStrF_1, dAdd_str, mPairs_nil, mPairs_cons, dMin2_1, dMax2_1, dAbs_1, dIntF_1, dIntF_2, isDic_d, isDic_v, isDic_t, isDic_l, dKey_i, dKey_s, dKx_i, dKx_s, dKin_i, dKin_s, getD_nil, getD_cons, hasK_nil, hasK_cons, putD_eq, mergeD_nil, mergeD_cons, dInF, dFdiv_eq, dMod_eq, dMul_r, dMul_l, dPow_eq, dShr_eq, dLt_eq, dLe_eq, dGt_eq, dGe_eq, dEq_int, dNe_int, dEq_bl, dNe_bl, dEq_str, dNe_str, atI_z, atI_lit, atI_n, ixN_lit, ixN_n, fz, fzs, fzO, wipeD, dIx_l, dIx_t, gNl_1, csK_1, gCs_1, gTu_1, itemsL_1, itemsT_1, mRng_1, mRng_2, dTup_1, dLst_1, setSlot_1, setK_1, gNm_1, dLen_l, dLen_t, dTuple_l, dTuple_t, dList_l, dList_t, oNo_1, oK_1, slK_1, slK1_1, slK2_1, dCut_l, dCut_t, isi_bool_bool, isi_bool_int, isi_bool_str, isi_bool_tuple, isi_bool_list, isi_int_bool, isi_int_int, isi_int_str, isi_int_tuple, isi_int_list, isi_str_bool, isi_str_int, isi_str_str, isi_str_tuple, isi_str_list, isi_tuple_bool, isi_tuple_int, isi_tuple_str, isi_tuple_tuple, isi_tuple_list, isi_list_bool, isi_list_int, isi_list_str, isi_list_tuple, isi_list_list, isi_nonetype_bool, isi_nonetype_int, isi_nonetype_str, isi_nonetype_tuple, isi_nonetype_list, isi_T, F_is_plain_number, m_is_plain_number, m_is_plain_number_0, m_is_plain_number_0_0, m_is_plain_number_1, plainB, c_LONGEST_NUMBER, c_FIGURES, e1, e2]
    · have ha : a ≠ 48 := fun z => h (zero_iff.mpr z)
      simp [ok_some, ok_none, br_true, br_false, req_true, req_false, okFz_b, dAdd_lst, dAdd_tp, take_nil, take_ex, take_bo, put_nil, put_bo, put_ex, outs, fxOf, ofStr_inj, dAdd_int, dSub_eq, clean, cleans, isN, dDictD_1, itemsS_1, dJoin_1, dStrF_1, dAdd_str, mPairs_nil, mPairs_cons, dMin2_1, dMax2_1, dAbs_1, dIntF_1, dIntF_2, isDic_d, isDic_v, isDic_t, isDic_l, dKey_i, dKey_s, dKx_i, dKx_s, dKin_i, dKin_s, getD_nil, getD_cons, hasK_nil, hasK_cons, putD_eq, mergeD_nil, mergeD_cons, dInF, dFdiv_eq, dMod_eq, dMul_r, dMul_l, dPow_eq, dShr_eq, dLt_eq, dLe_eq, dGt_eq, dGe_eq, dEq_int, dNe_int, dEq_bl, dNe_bl, dEq_str, dNe_str, atI_z, atI_lit, atI_n, ixN_lit, ixN_n, fz, fzs, fzO, wipeD, dIx_l, dIx_t, gNl_1, csK_1, gCs_1, gTu_1, itemsL_1, itemsT_1, mRng_1, mRng_2, dTup_1, dLst_1, setSlot_1, setK_1, gNm_1, dLen_l, dLen_t, dTuple_l, dTuple_t, dList_l, dList_t, oNo_1, oK_1, slK_1, slK1_1, slK2_1, dCut_l, dCut_t, isi_bool_bool, isi_bool_int, isi_bool_str, isi_bool_tuple, isi_bool_list, isi_int_bool, isi_int_int, isi_int_str, isi_int_tuple, isi_int_list, isi_str_bool, isi_str_int, isi_str_str, isi_str_tuple, isi_str_list, isi_tuple_bool, isi_tuple_int, isi_tuple_str, isi_tuple_tuple, isi_tuple_list, isi_list_bool, isi_list_int, isi_list_str, isi_list_tuple, isi_list_list, isi_nonetype_bool, isi_nonetype_int, isi_nonetype_str, isi_nonetype_tuple, isi_nonetype_list, isi_T, F_is_plain_number, m_is_plain_number, m_is_plain_number_0, m_is_plain_number_0_0, m_is_plain_number_1, plainB, c_LONGEST_NUMBER, c_FIGURES, e1, e2, ↓hd]
      rw [dEq_nil (lay_ch (fun d hd => hw d ((List.mem_filter.mp hd).1))) (by decide)]
      simp [ok_some, ok_none, br_true, br_false, req_true, req_false, okFz_b, dAdd_lst, dAdd_tp, take_nil, take_ex, take_bo, put_nil, put_bo, put_ex, outs, fxOf, ofStr_inj, dAdd_int, dSub_eq, clean, cleans, isN, dDictD_1, itemsS_1, dJoin_1, dStrF_1, dAdd_str, mPairs_nil, mPairs_cons, dMin2_1, dMax2_1, dAbs_1, dIntF_1, dIntF_2, isDic_d, isDic_v, isDic_t, isDic_l, dKey_i, dKey_s, dKx_i, dKx_s, dKin_i, dKin_s, getD_nil, getD_cons, hasK_nil, hasK_cons, putD_eq, mergeD_nil, mergeD_cons, dInF, dFdiv_eq, dMod_eq, dMul_r, dMul_l, dPow_eq, dShr_eq, dLt_eq, dLe_eq, dGt_eq, dGe_eq, dEq_int, dNe_int, dEq_bl, dNe_bl, dEq_str, dNe_str, atI_z, atI_lit, atI_n, ixN_lit, ixN_n, fz, fzs, fzO, wipeD, dIx_l, dIx_t, gNl_1, csK_1, gCs_1, gTu_1, itemsL_1, itemsT_1, mRng_1, mRng_2, dTup_1, dLst_1, setSlot_1, setK_1, gNm_1, dLen_l, dLen_t, dTuple_l, dTuple_t, dList_l, dList_t, oNo_1, oK_1, slK_1, slK1_1, slK2_1, dCut_l, dCut_t, isi_bool_bool, isi_bool_int, isi_bool_str, isi_bool_tuple, isi_bool_list, isi_int_bool, isi_int_int, isi_int_str, isi_int_tuple, isi_int_list, isi_str_bool, isi_str_int, isi_str_str, isi_str_tuple, isi_str_list, isi_tuple_bool, isi_tuple_int, isi_tuple_str, isi_tuple_tuple, isi_tuple_list, isi_list_bool, isi_list_int, isi_list_str, isi_list_tuple, isi_list_list, isi_nonetype_bool, isi_nonetype_int, isi_nonetype_str, isi_nonetype_tuple, isi_nonetype_list, isi_T]
      cases hA : dig a <;> cases hB : dig b <;> simp [hA, hB, ha]
  | [a, b, c] =>
    have e1 : dLen [tT ⟨⟨[a, b, c]⟩⟩] = some (tI 3) := by rw [dLen_s hl]; simp [len_l] <;> omega
    have e2 : dIx (tT ⟨⟨[a, b, c]⟩⟩) (tI 0) = some (tT ⟨#[a]⟩) := dIx_s0 hl
    have hd := pl_loop (some (tT ⟨⟨[a, b, c]⟩⟩)) [a, b, c] hw
    simp only [List.map_cons, List.map_nil] at hd
    simp [ok_some, ok_none, br_true, br_false, req_true, req_false, okFz_b, dAdd_lst, dAdd_tp, take_nil, take_ex, take_bo, put_nil, put_bo, put_ex, outs, fxOf, ofStr_inj, dAdd_int, dSub_eq, clean, cleans, isN, dDictD_1, itemsS_1, dJoin_1, dStrF_1, dAdd_str, mPairs_nil, mPairs_cons, dMin2_1, dMax2_1, dAbs_1, dIntF_1, dIntF_2, isDic_d, isDic_v, isDic_t, isDic_l, dKey_i, dKey_s, dKx_i, dKx_s, dKin_i, dKin_s, getD_nil, getD_cons, hasK_nil, hasK_cons, putD_eq, mergeD_nil, mergeD_cons, dInF, dFdiv_eq, dMod_eq, dMul_r, dMul_l, dPow_eq, dShr_eq, dLt_eq, dLe_eq, dGt_eq, dGe_eq, dEq_int, dNe_int, dEq_bl, dNe_bl, dEq_str, dNe_str, atI_z, atI_lit, atI_n, ixN_lit, ixN_n, fz, fzs, fzO, wipeD, dIx_l, dIx_t, gNl_1, csK_1, gCs_1, gTu_1, itemsL_1, itemsT_1, mRng_1, mRng_2, dTup_1, dLst_1, setSlot_1, setK_1, gNm_1, dLen_l, dLen_t, dTuple_l, dTuple_t, dList_l, dList_t, oNo_1, oK_1, slK_1, slK1_1, slK2_1, dCut_l, dCut_t, isi_bool_bool, isi_bool_int, isi_bool_str, isi_bool_tuple, isi_bool_list, isi_int_bool, isi_int_int, isi_int_str, isi_int_tuple, isi_int_list, isi_str_bool, isi_str_int, isi_str_str, isi_str_tuple, isi_str_list, isi_tuple_bool, isi_tuple_int, isi_tuple_str, isi_tuple_tuple, isi_tuple_list, isi_list_bool, isi_list_int, isi_list_str, isi_list_tuple, isi_list_list, isi_nonetype_bool, isi_nonetype_int, isi_nonetype_str, isi_nonetype_tuple, isi_nonetype_list, isi_T, F_is_plain_number, m_is_plain_number, m_is_plain_number_0, m_is_plain_number_0_0, m_is_plain_number_1, plainB, c_LONGEST_NUMBER, c_FIGURES, e1, e2]
    refine br_mk (fun h => ?_) (fun h => ?_)
    · have ha := zero_iff.mp h
      subst ha
      simp [ok_some, ok_none, br_true, br_false, req_true, req_false, okFz_b, dAdd_lst, dAdd_tp, take_nil, take_ex, take_bo, put_nil, put_bo, put_ex, outs, fxOf, ofStr_inj, dAdd_int, dSub_eq, clean, cleans, isN, dDictD_1, itemsS_1, dJoin_1, dStrF_1, dAdd_str, mPairs_nil, mPairs_cons, dMin2_1, dMax2_1, dAbs_1, dIntF_1, dIntF_2, isDic_d, isDic_v, isDic_t, isDic_l, dKey_i, dKey_s, dKx_i, dKx_s, dKin_i, dKin_s, getD_nil, getD_cons, hasK_nil, hasK_cons, putD_eq, mergeD_nil, mergeD_cons, dInF, dFdiv_eq, dMod_eq, dMul_r, dMul_l, dPow_eq, dShr_eq, dLt_eq, dLe_eq, dGt_eq, dGe_eq, dEq_int, dNe_int, dEq_bl, dNe_bl, dEq_str, dNe_str, atI_z, atI_lit, atI_n, ixN_lit, ixN_n, fz, fzs, fzO, wipeD, dIx_l, dIx_t, gNl_1, csK_1, gCs_1, gTu_1, itemsL_1, itemsT_1, mRng_1, mRng_2, dTup_1, dLst_1, setSlot_1, setK_1, gNm_1, dLen_l, dLen_t, dTuple_l, dTuple_t, dList_l, dList_t, oNo_1, oK_1, slK_1, slK1_1, slK2_1, dCut_l, dCut_t, isi_bool_bool, isi_bool_int, isi_bool_str, isi_bool_tuple, isi_bool_list, isi_int_bool, isi_int_int, isi_int_str, isi_int_tuple, isi_int_list, isi_str_bool, isi_str_int, isi_str_str, isi_str_tuple, isi_str_list, isi_tuple_bool, isi_tuple_int, isi_tuple_str, isi_tuple_tuple, isi_tuple_list, isi_list_bool, isi_list_int, isi_list_str, isi_list_tuple, isi_list_list, isi_nonetype_bool, isi_nonetype_int, isi_nonetype_str, isi_nonetype_tuple, isi_nonetype_list, isi_T, F_is_plain_number, m_is_plain_number, m_is_plain_number_0, m_is_plain_number_0_0, m_is_plain_number_1, plainB, c_LONGEST_NUMBER, c_FIGURES, e1, e2]
      refine br_pos (fun z => ?_) ?_
      · have z9 := congrArg (fun s : Str => s.cps.size) z
        simp at z9
        exact absurd z9 (by decide +kernel)
      simp [ok_some, ok_none, br_true, br_false, req_true, req_false, okFz_b, dAdd_lst, dAdd_tp, take_nil, take_ex, take_bo, put_nil, put_bo, put_ex, outs, fxOf, ofStr_inj, dAdd_int, dSub_eq, clean, cleans, isN, dDictD_1, itemsS_1, dJoin_1, dStrF_1, dAdd_str, mPairs_nil, mPairs_cons, dMin2_1, dMax2_1, dAbs_1, dIntF_1, dIntF_2, isDic_d, isDic_v, isDic_t, isDic_l, dKey_i, dKey_s, dKx_i, dKx_s, dKin_i, dKin_s, getD_nil, getD_cons, hasK_nil, hasK_cons, putD_eq, mergeD_nil, mergeD_cons, dInF, dFdiv_eq, dMod_eq, dMul_r, dMul_l, dPow_eq, dShr_eq, dLt_eq, dLe_eq, dGt_eq, dGe_eq, dEq_int, dNe_int, dEq_bl, dNe_bl, dEq_str, dNe_str, atI_z, atI_lit, atI_n, ixN_lit, ixN_n, fz, fzs, fzO, wipeD, dIx_l, dIx_t, gNl_1, csK_1, gCs_1, gTu_1, itemsL_1, itemsT_1, mRng_1, mRng_2, dTup_1, dLst_1, setSlot_1, setK_1, gNm_1, dLen_l, dLen_t, dTuple_l, dTuple_t, dList_l, dList_t, oNo_1, oK_1, slK_1, slK1_1, slK2_1, dCut_l, dCut_t, isi_bool_bool, isi_bool_int, isi_bool_str, isi_bool_tuple, isi_bool_list, isi_int_bool, isi_int_int, isi_int_str, isi_int_tuple, isi_int_list, isi_str_bool, isi_str_int, isi_str_str, isi_str_tuple, isi_str_list, isi_tuple_bool, isi_tuple_int, isi_tuple_str, isi_tuple_tuple, isi_tuple_list, isi_list_bool, isi_list_int, isi_list_str, isi_list_tuple, isi_list_list, isi_nonetype_bool, isi_nonetype_int, isi_nonetype_str, isi_nonetype_tuple, isi_nonetype_list, isi_T, F_is_plain_number, m_is_plain_number, m_is_plain_number_0, m_is_plain_number_0_0, m_is_plain_number_1, plainB, c_LONGEST_NUMBER, c_FIGURES, e1, e2]
    · have ha : a ≠ 48 := fun z => h (zero_iff.mpr z)
      simp [ok_some, ok_none, br_true, br_false, req_true, req_false, okFz_b, dAdd_lst, dAdd_tp, take_nil, take_ex, take_bo, put_nil, put_bo, put_ex, outs, fxOf, ofStr_inj, dAdd_int, dSub_eq, clean, cleans, isN, dDictD_1, itemsS_1, dJoin_1, dStrF_1, dAdd_str, mPairs_nil, mPairs_cons, dMin2_1, dMax2_1, dAbs_1, dIntF_1, dIntF_2, isDic_d, isDic_v, isDic_t, isDic_l, dKey_i, dKey_s, dKx_i, dKx_s, dKin_i, dKin_s, getD_nil, getD_cons, hasK_nil, hasK_cons, putD_eq, mergeD_nil, mergeD_cons, dInF, dFdiv_eq, dMod_eq, dMul_r, dMul_l, dPow_eq, dShr_eq, dLt_eq, dLe_eq, dGt_eq, dGe_eq, dEq_int, dNe_int, dEq_bl, dNe_bl, dEq_str, dNe_str, atI_z, atI_lit, atI_n, ixN_lit, ixN_n, fz, fzs, fzO, wipeD, dIx_l, dIx_t, gNl_1, csK_1, gCs_1, gTu_1, itemsL_1, itemsT_1, mRng_1, mRng_2, dTup_1, dLst_1, setSlot_1, setK_1, gNm_1, dLen_l, dLen_t, dTuple_l, dTuple_t, dList_l, dList_t, oNo_1, oK_1, slK_1, slK1_1, slK2_1, dCut_l, dCut_t, isi_bool_bool, isi_bool_int, isi_bool_str, isi_bool_tuple, isi_bool_list, isi_int_bool, isi_int_int, isi_int_str, isi_int_tuple, isi_int_list, isi_str_bool, isi_str_int, isi_str_str, isi_str_tuple, isi_str_list, isi_tuple_bool, isi_tuple_int, isi_tuple_str, isi_tuple_tuple, isi_tuple_list, isi_list_bool, isi_list_int, isi_list_str, isi_list_tuple, isi_list_list, isi_nonetype_bool, isi_nonetype_int, isi_nonetype_str, isi_nonetype_tuple, isi_nonetype_list, isi_T, F_is_plain_number, m_is_plain_number, m_is_plain_number_0, m_is_plain_number_0_0, m_is_plain_number_1, plainB, c_LONGEST_NUMBER, c_FIGURES, e1, e2, ↓hd]
      rw [dEq_nil (lay_ch (fun d hd => hw d ((List.mem_filter.mp hd).1))) (by decide)]
      simp [ok_some, ok_none, br_true, br_false, req_true, req_false, okFz_b, dAdd_lst, dAdd_tp, take_nil, take_ex, take_bo, put_nil, put_bo, put_ex, outs, fxOf, ofStr_inj, dAdd_int, dSub_eq, clean, cleans, isN, dDictD_1, itemsS_1, dJoin_1, dStrF_1, dAdd_str, mPairs_nil, mPairs_cons, dMin2_1, dMax2_1, dAbs_1, dIntF_1, dIntF_2, isDic_d, isDic_v, isDic_t, isDic_l, dKey_i, dKey_s, dKx_i, dKx_s, dKin_i, dKin_s, getD_nil, getD_cons, hasK_nil, hasK_cons, putD_eq, mergeD_nil, mergeD_cons, dInF, dFdiv_eq, dMod_eq, dMul_r, dMul_l, dPow_eq, dShr_eq, dLt_eq, dLe_eq, dGt_eq, dGe_eq, dEq_int, dNe_int, dEq_bl, dNe_bl, dEq_str, dNe_str, atI_z, atI_lit, atI_n, ixN_lit, ixN_n, fz, fzs, fzO, wipeD, dIx_l, dIx_t, gNl_1, csK_1, gCs_1, gTu_1, itemsL_1, itemsT_1, mRng_1, mRng_2, dTup_1, dLst_1, setSlot_1, setK_1, gNm_1, dLen_l, dLen_t, dTuple_l, dTuple_t, dList_l, dList_t, oNo_1, oK_1, slK_1, slK1_1, slK2_1, dCut_l, dCut_t, isi_bool_bool, isi_bool_int, isi_bool_str, isi_bool_tuple, isi_bool_list, isi_int_bool, isi_int_int, isi_int_str, isi_int_tuple, isi_int_list, isi_str_bool, isi_str_int, isi_str_str, isi_str_tuple, isi_str_list, isi_tuple_bool, isi_tuple_int, isi_tuple_str, isi_tuple_tuple, isi_tuple_list, isi_list_bool, isi_list_int, isi_list_str, isi_list_tuple, isi_list_list, isi_nonetype_bool, isi_nonetype_int, isi_nonetype_str, isi_nonetype_tuple, isi_nonetype_list, isi_T]
      cases hA : dig a <;> cases hB : dig b <;> cases hC : dig c <;> simp [hA, hB, hC, ha]
  | a :: b :: c :: d :: r =>
    have e1 : dLen [tT ⟨⟨a :: b :: c :: d :: r⟩⟩] = some (tI ((r.length : Int) + 4)) := by rw [dLen_s hl]; simp [len_l] <;> omega
    have e2 := e1
    simp [ok_some, ok_none, br_true, br_false, req_true, req_false, okFz_b, dAdd_lst, dAdd_tp, take_nil, take_ex, take_bo, put_nil, put_bo, put_ex, outs, fxOf, ofStr_inj, dAdd_int, dSub_eq, clean, cleans, isN, dDictD_1, itemsS_1, dJoin_1, dStrF_1, dAdd_str, mPairs_nil, mPairs_cons, dMin2_1, dMax2_1, dAbs_1, dIntF_1, dIntF_2, isDic_d, isDic_v, isDic_t, isDic_l, dKey_i, dKey_s, dKx_i, dKx_s, dKin_i, dKin_s, getD_nil, getD_cons, hasK_nil, hasK_cons, putD_eq, mergeD_nil, mergeD_cons, dInF, dFdiv_eq, dMod_eq, dMul_r, dMul_l, dPow_eq, dShr_eq, dLt_eq, dLe_eq, dGt_eq, dGe_eq, dEq_int, dNe_int, dEq_bl, dNe_bl, dEq_str, dNe_str, atI_z, atI_lit, atI_n, ixN_lit, ixN_n, fz, fzs, fzO, wipeD, dIx_l, dIx_t, gNl_1, csK_1, gCs_1, gTu_1, itemsL_1, itemsT_1, mRng_1, mRng_2, dTup_1, dLst_1, setSlot_1, setK_1, gNm_1, dLen_l, dLen_t, dTuple_l, dTuple_t, dList_l, dList_t, oNo_1, oK_1, slK_1, slK1_1, slK2_1, dCut_l, dCut_t, isi_bool_bool, isi_bool_int, isi_bool_str, isi_bool_tuple, isi_bool_list, isi_int_bool, isi_int_int, isi_int_str, isi_int_tuple, isi_int_list, isi_str_bool, isi_str_int, isi_str_str, isi_str_tuple, isi_str_list, isi_tuple_bool, isi_tuple_int, isi_tuple_str, isi_tuple_tuple, isi_tuple_list, isi_list_bool, isi_list_int, isi_list_str, isi_list_tuple, isi_list_list, isi_nonetype_bool, isi_nonetype_int, isi_nonetype_str, isi_nonetype_tuple, isi_nonetype_list, isi_T, F_is_plain_number, m_is_plain_number, m_is_plain_number_0, m_is_plain_number_0_0, m_is_plain_number_1, plainB, c_LONGEST_NUMBER, c_FIGURES, e1, e2]
    refine br_mk (fun h => ?_) (fun h => ?_)
    · simp [ok_some, ok_none, br_true, br_false, req_true, req_false, okFz_b, dAdd_lst, dAdd_tp, take_nil, take_ex, take_bo, put_nil, put_bo, put_ex, outs, fxOf, ofStr_inj, dAdd_int, dSub_eq, clean, cleans, isN, dDictD_1, itemsS_1, dJoin_1, dStrF_1, dAdd_str, mPairs_nil, mPairs_cons, dMin2_1, dMax2_1, dAbs_1, dIntF_1, dIntF_2, isDic_d, isDic_v, isDic_t, isDic_l, dKey_i, dKey_s, dKx_i, dKx_s, dKin_i, dKin_s, getD_nil, getD_cons, hasK_nil, hasK_cons, putD_eq, mergeD_nil, mergeD_cons, dInF, dFdiv_eq, dMod_eq, dMul_r, dMul_l, dPow_eq, dShr_eq, dLt_eq, dLe_eq, dGt_eq, dGe_eq, dEq_int, dNe_int, dEq_bl, dNe_bl, dEq_str, dNe_str, atI_z, atI_lit, atI_n, ixN_lit, ixN_n, fz, fzs, fzO, wipeD, dIx_l, dIx_t, gNl_1, csK_1, gCs_1, gTu_1, itemsL_1, itemsT_1, mRng_1, mRng_2, dTup_1, dLst_1, setSlot_1, setK_1, gNm_1, dLen_l, dLen_t, dTuple_l, dTuple_t, dList_l, dList_t, oNo_1, oK_1, slK_1, slK1_1, slK2_1, dCut_l, dCut_t, isi_bool_bool, isi_bool_int, isi_bool_str, isi_bool_tuple, isi_bool_list, isi_int_bool, isi_int_int, isi_int_str, isi_int_tuple, isi_int_list, isi_str_bool, isi_str_int, isi_str_str, isi_str_tuple, isi_str_list, isi_tuple_bool, isi_tuple_int, isi_tuple_str, isi_tuple_tuple, isi_tuple_list, isi_list_bool, isi_list_int, isi_list_str, isi_list_tuple, isi_list_list, isi_nonetype_bool, isi_nonetype_int, isi_nonetype_str, isi_nonetype_tuple, isi_nonetype_list, isi_T, F_is_plain_number, m_is_plain_number, m_is_plain_number_0, m_is_plain_number_0_0, m_is_plain_number_1, plainB, c_LONGEST_NUMBER, c_FIGURES, e1, e2]
      refine br_pos (by omega) ?_
      simp [ok_some, ok_none, br_true, br_false, req_true, req_false, okFz_b, dAdd_lst, dAdd_tp, take_nil, take_ex, take_bo, put_nil, put_bo, put_ex, outs, fxOf, ofStr_inj, dAdd_int, dSub_eq, clean, cleans, isN, dDictD_1, itemsS_1, dJoin_1, dStrF_1, dAdd_str, mPairs_nil, mPairs_cons, dMin2_1, dMax2_1, dAbs_1, dIntF_1, dIntF_2, isDic_d, isDic_v, isDic_t, isDic_l, dKey_i, dKey_s, dKx_i, dKx_s, dKin_i, dKin_s, getD_nil, getD_cons, hasK_nil, hasK_cons, putD_eq, mergeD_nil, mergeD_cons, dInF, dFdiv_eq, dMod_eq, dMul_r, dMul_l, dPow_eq, dShr_eq, dLt_eq, dLe_eq, dGt_eq, dGe_eq, dEq_int, dNe_int, dEq_bl, dNe_bl, dEq_str, dNe_str, atI_z, atI_lit, atI_n, ixN_lit, ixN_n, fz, fzs, fzO, wipeD, dIx_l, dIx_t, gNl_1, csK_1, gCs_1, gTu_1, itemsL_1, itemsT_1, mRng_1, mRng_2, dTup_1, dLst_1, setSlot_1, setK_1, gNm_1, dLen_l, dLen_t, dTuple_l, dTuple_t, dList_l, dList_t, oNo_1, oK_1, slK_1, slK1_1, slK2_1, dCut_l, dCut_t, isi_bool_bool, isi_bool_int, isi_bool_str, isi_bool_tuple, isi_bool_list, isi_int_bool, isi_int_int, isi_int_str, isi_int_tuple, isi_int_list, isi_str_bool, isi_str_int, isi_str_str, isi_str_tuple, isi_str_list, isi_tuple_bool, isi_tuple_int, isi_tuple_str, isi_tuple_tuple, isi_tuple_list, isi_list_bool, isi_list_int, isi_list_str, isi_list_tuple, isi_list_list, isi_nonetype_bool, isi_nonetype_int, isi_nonetype_str, isi_nonetype_tuple, isi_nonetype_list, isi_T, F_is_plain_number, m_is_plain_number, m_is_plain_number_0, m_is_plain_number_0_0, m_is_plain_number_1, plainB, c_LONGEST_NUMBER, c_FIGURES, e1, e2]
    · exfalso; omega
/-- the number that a plain word writes -/
theorem plain_num {l : List Nat} (h : plainB l = true) : ∃ n : Nat, n < 1000 ∧ l = (sN n).cps.toList := by
  have run : ∀ k ∈ List.range 1000, (sN (k : Int)).cps.toList = if k < 10 then [48 + k] else if k < 100 then [48 + k / 10, 48 + k % 10] else [48 + k / 100, 48 + k / 10 % 10, 48 + k % 10] := by decide +kernel
  have dg : ∀ {c : Nat}, dig c = true → 48 ≤ c ∧ c ≤ 57 := fun h => of_decide_eq_true h
  match l, h with
  | [a], h =>
    have := dg h
    refine ⟨a - 48, by omega, ?_⟩
    rw [run _ (List.mem_range.mpr (by omega)), if_pos (by omega), show 48 + (a - 48) = a by omega]
  | [a, b], h =>
    simp only [plainB, Bool.and_eq_true, Bool.not_eq_true', decide_eq_false_iff_not] at h
    have h1 := dg h.1.2
    have h2 := dg h.2
    have h3 := h.1.1
    refine ⟨(a - 48) * 10 + (b - 48), by omega, ?_⟩
    rw [run _ (List.mem_range.mpr (by omega)), if_neg (by omega), if_pos (by omega), show 48 + ((a - 48) * 10 + (b - 48)) / 10 = a by omega, show 48 + ((a - 48) * 10 + (b - 48)) % 10 = b by omega]
  | [a, b, c], h =>
    simp only [plainB, Bool.and_eq_true, Bool.not_eq_true', decide_eq_false_iff_not] at h
    have h1 := dg h.1.1.2
    have h2 := dg h.1.2
    have h4 := dg h.2
    have h3 := h.1.1.1
    refine ⟨(a - 48) * 100 + (b - 48) * 10 + (c - 48), by omega, ?_⟩
    rw [run _ (List.mem_range.mpr (by omega)), if_neg (by omega), if_neg (by omega), show 48 + ((a - 48) * 100 + (b - 48) * 10 + (c - 48)) / 100 = a by omega, show 48 + ((a - 48) * 100 + (b - 48) * 10 + (c - 48)) / 10 % 10 = b by omega, show 48 + ((a - 48) * 100 + (b - 48) * 10 + (c - 48)) % 10 = c by omega]
end My
set_option exponentiation.threshold 10000
namespace My
open PySem L2 Z
/-! ### a word, and how far it is read -/
def cur (w : List Nat) (a d : Int) : D := .ins .own "Cursor" ["word", "at", "deep"] [tC w, tI a, tI d]
theorem cutL_nn {α : Type} (xs : List α) (a b : Nat) (h : a ≤ b) : cutL xs (some (a : Int)) (some (b : Int)) = (xs.drop a).take (b - a) := by
  unfold cutL
  rw [HT.sIx_nat, HT.sIx_nat]
  by_cases ha : a ≤ xs.length
  · rw [Nat.min_eq_left ha]
    by_cases hb : b ≤ xs.length
    · rw [Nat.min_eq_left hb]
    · rw [Nat.min_eq_right (by omega), List.take_of_length_le (by simp), List.take_of_length_le (by simp; omega)]
  · rw [Nat.min_eq_right (show xs.length ≤ a by omega), List.drop_of_length_le (Nat.le_refl _), List.drop_of_length_le (show xs.length ≤ a by omega)]; simp
theorem dCut_C (w : List Nat) (hw : w.length ≤ 10000) (a b : Nat) (h : a ≤ b) : dCut (tC w) (some (a : Int)) (some (b : Int)) = some (tC ((w.drop a).take (b - a))) := by
  unfold tC
  show (if (Str.mk ⟨w⟩).length ≤ 16777216 then some (D.v (.str ⟨⟨cutL w (some (a : Int)) (some (b : Int))⟩⟩)) else none) = _
  rw [if_pos (by rw [len_l]; omega), cutL_nn w a b h]
def hereC (w : List Nat) (a : Nat) : List Nat := (w.drop a).take 1
theorem here_ok (w : List Nat) (hw : w.length ≤ 10000) (a : Nat) (d : Int) : F_Cursor_here [cur w (a : Int) d] = some (tC (hereC w a), [some (cur w (a : Int) d)]) := by
  apply ok_is
  unfold cur
  have hc := @clean_C1 w
  have hf := @fz_C1 w
  have e := dCut_C w hw a (a + 1) (by omega)
  rw [show a + 1 - a = 1 by omega, Int.natCast_add] at e
  have e : dCut (tC w) (some (a : Int)) (some ((a : Int) + 1)) = some (tC (hereC w a)) := e
  simp [ok_some, ok_none, br_true, br_false, req_true, req_false, okFz_b, dAdd_lst, dAdd_tp, take_nil, take_ex, take_bo, put_nil, put_bo, put_ex, outs, fxOf, ofStr_inj, dAdd_int, dSub_eq, clean, cleans, isN, dDictD_1, itemsS_1, dJoin_1, dStrF_1, dAdd_str, mPairs_nil, mPairs_cons, dMin2_1, dMax2_1, dAbs_1, dIntF_1, dIntF_2, isDic_d, isDic_v, isDic_t, isDic_l, dKey_i, dKey_s, dKx_i, dKx_s, dKin_i, dKin_s, getD_nil, getD_cons, hasK_nil, hasK_cons, putD_eq, mergeD_nil, mergeD_cons, dInF, dFdiv_eq, dMod_eq, dMul_r, dMul_l, dPow_eq, dShr_eq, dLt_eq, dLe_eq, dGt_eq, dGe_eq, dEq_int, dNe_int, dEq_bl, dNe_bl, dEq_str, dNe_str, atI_z, atI_lit, atI_n, ixN_lit, ixN_n, fz, fzs, fzO, wipeD, dIx_l, dIx_t, gNl_1, csK_1, gCs_1, gTu_1, itemsL_1, itemsT_1, mRng_1, mRng_2, dTup_1, dLst_1, setSlot_1, setK_1, gNm_1, dLen_l, dLen_t, dTuple_l, dTuple_t, dList_l, dList_t, oNo_1, oK_1, slK_1, slK1_1, slK2_1, dCut_l, dCut_t, isi_bool_bool, isi_bool_int, isi_bool_str, isi_bool_tuple, isi_bool_list, isi_int_bool, isi_int_int, isi_int_str, isi_int_tuple, isi_int_list, isi_str_bool, isi_str_int, isi_str_str, isi_str_tuple, isi_str_list, isi_tuple_bool, isi_tuple_int, isi_tuple_str, isi_tuple_tuple, isi_tuple_list, isi_list_bool, isi_list_int, isi_list_str, isi_list_tuple, isi_list_list, isi_nonetype_bool, isi_nonetype_int, isi_nonetype_str, isi_nonetype_tuple, isi_nonetype_list, isi_T, F_Cursor_here, m_Cursor_here, hc, hf, e]
  done
theorem ofS_nil : Str.ofString "" = ⟨#[]⟩ := by decide +kernel
theorem hr_nil : dNe (tC []) (tS "") = some (.v (.bl false)) := by
  show dNe (.v (.str ⟨#[]⟩)) (.v (.str (Str.ofString ""))) = _
  rw [ofS_nil]; rfl
theorem hr_ne (c : Nat) (l : List Nat) : dNe (tC (c :: l)) (tS "") = some (.v (.bl true)) := by
  show dNe (.v (.str ⟨⟨c :: l⟩⟩)) (.v (.str (Str.ofString ""))) = _
  rw [ofS_nil]
  unfold dNe dEqB
  simp [scal]
theorem one_eq {x : String} {k : Nat} (hx : Str.ofString x = ⟨#[k]⟩) (l : List Nat) : dEq (tC l) (tS x) = some (.v (.bl (decide (l = [k])))) := by
  show dEq (.v (.str ⟨⟨l⟩⟩)) (.v (.str (Str.ofString x))) = _
  rw [hx]
  unfold dEq dEqB
  simp [scal]
theorem one_ne {x : String} {k : Nat} (hx : Str.ofString x = ⟨#[k]⟩) (l : List Nat) : dNe (tC l) (tS x) = some (.v (.bl (!decide (l = [k])))) := by
  show dNe (.v (.str ⟨⟨l⟩⟩)) (.v (.str (Str.ofString x))) = _
  rw [hx]
  unfold dNe dEqB
  simp [scal]
theorem one_inB (c : Nat) (z : Str) : dInB (tC [c]) (.v (.str z)) = some (decide (c ∈ z.cps.toList)) := rfl
theorem mC_e {v : V} {ds : DS} : mC v ds = some (.v v, ds) := nrfl
theorem hereC_cons {w : List Nat} {a : Nat} (h : a < w.length) : hereC w a = [w[a]] := by
  unfold hereC
  rw [List.drop_eq_getElem_cons h]; rfl
theorem hereC_nil {w : List Nat} {a : Nat} (h : w.length ≤ a) : hereC w a = [] := by
  unfold hereC
  rw [List.drop_of_length_le h]; rfl
/-- the signs that are of some -/
theorem taken_ok (w : List Nat) (hw : w.length ≤ 10000) (a : Nat) (ha : a ≤ w.length) (d : Int) (z : Str) (p : Nat → Bool) (hp : ∀ c, decide (c ∈ z.cps.toList) = p c) :
    F_Cursor_taken [cur w (a : Int) d, tT z] = some (tC ((w.drop a).takeWhile p), [some (cur w ((a + ((w.drop a).takeWhile p).length : Nat) : Int) d), some (tT z)]) := by
  apply ok_is
  have hc := @clean_C1 w
  have hf := @fz_C1 w
  unfold cur
  simp [ok_some, ok_none, br_true, br_false, req_true, req_false, okFz_b, dAdd_lst, dAdd_tp, take_nil, take_ex, take_bo, put_nil, put_bo, put_ex, outs, fxOf, ofStr_inj, dAdd_int, dSub_eq, clean, cleans, isN, dDictD_1, itemsS_1, dJoin_1, dStrF_1, dAdd_str, mPairs_nil, mPairs_cons, dMin2_1, dMax2_1, dAbs_1, dIntF_1, dIntF_2, isDic_d, isDic_v, isDic_t, isDic_l, dKey_i, dKey_s, dKx_i, dKx_s, dKin_i, dKin_s, getD_nil, getD_cons, hasK_nil, hasK_cons, putD_eq, mergeD_nil, mergeD_cons, dInF, dFdiv_eq, dMod_eq, dMul_r, dMul_l, dPow_eq, dShr_eq, dLt_eq, dLe_eq, dGt_eq, dGe_eq, dEq_int, dNe_int, dEq_bl, dNe_bl, dEq_str, dNe_str, atI_z, atI_lit, atI_n, ixN_lit, ixN_n, fz, fzs, fzO, wipeD, dIx_l, dIx_t, gNl_1, csK_1, gCs_1, gTu_1, itemsL_1, itemsT_1, mRng_1, mRng_2, dTup_1, dLst_1, setSlot_1, setK_1, gNm_1, dLen_l, dLen_t, dTuple_l, dTuple_t, dList_l, dList_t, oNo_1, oK_1, slK_1, slK1_1, slK2_1, dCut_l, dCut_t, isi_bool_bool, isi_bool_int, isi_bool_str, isi_bool_tuple, isi_bool_list, isi_int_bool, isi_int_int, isi_int_str, isi_int_tuple, isi_int_list, isi_str_bool, isi_str_int, isi_str_str, isi_str_tuple, isi_str_list, isi_tuple_bool, isi_tuple_int, isi_tuple_str, isi_tuple_tuple, isi_tuple_list, isi_list_bool, isi_list_int, isi_list_str, isi_list_tuple, isi_list_list, isi_nonetype_bool, isi_nonetype_int, isi_nonetype_str, isi_nonetype_tuple, isi_nonetype_list, isi_T, F_Cursor_taken, m_Cursor_taken]
  refine ok_While (fun v ds => ∃ b : Nat, ds = [some (.ins .own "Cursor" ["word", "at", "deep"] [tC w, tI (b : Int), tI d]), some (tT z), some (tI (a : Int))] ∧ a ≤ b ∧ b ≤ w.length ∧ v = w.length - b ∧ (w.drop a).takeWhile p = (w.drop a).take (b - a) ++ (w.drop b).takeWhile p) (w.length - a) ⟨a, rfl, Nat.le_refl _, ha, rfl, by simp⟩ (by omega) ?_
  rintro v _ ⟨b, rfl, hab, hb, rfl, ht⟩
  have eh := here_ok w hw b d
  unfold cur at eh
  by_cases hlt : b < w.length
  · rw [hereC_cons hlt] at eh
    have e1 := hr_ne w[b] []
    have e2 := one_inB w[b] z
    rw [hp] at e2
    have hc1 := @clean_C1 [w[b]]
    simp [ok_some, ok_none, br_true, br_false, req_true, req_false, okFz_b, dAdd_lst, dAdd_tp, take_nil, take_ex, take_bo, put_nil, put_bo, put_ex, outs, fxOf, ofStr_inj, dAdd_int, dSub_eq, clean, cleans, isN, dDictD_1, itemsS_1, dJoin_1, dStrF_1, dAdd_str, mPairs_nil, mPairs_cons, dMin2_1, dMax2_1, dAbs_1, dIntF_1, dIntF_2, isDic_d, isDic_v, isDic_t, isDic_l, dKey_i, dKey_s, dKx_i, dKx_s, dKin_i, dKin_s, getD_nil, getD_cons, hasK_nil, hasK_cons, putD_eq, mergeD_nil, mergeD_cons, dInF, dFdiv_eq, dMod_eq, dMul_r, dMul_l, dPow_eq, dShr_eq, dLt_eq, dLe_eq, dGt_eq, dGe_eq, dEq_int, dNe_int, dEq_bl, dNe_bl, dEq_str, dNe_str, atI_z, atI_lit, atI_n, ixN_lit, ixN_n, fz, fzs, fzO, wipeD, dIx_l, dIx_t, gNl_1, csK_1, gCs_1, gTu_1, itemsL_1, itemsT_1, mRng_1, mRng_2, dTup_1, dLst_1, setSlot_1, setK_1, gNm_1, dLen_l, dLen_t, dTuple_l, dTuple_t, dList_l, dList_t, oNo_1, oK_1, slK_1, slK1_1, slK2_1, dCut_l, dCut_t, isi_bool_bool, isi_bool_int, isi_bool_str, isi_bool_tuple, isi_bool_list, isi_int_bool, isi_int_int, isi_int_str, isi_int_tuple, isi_int_list, isi_str_bool, isi_str_int, isi_str_str, isi_str_tuple, isi_str_list, isi_tuple_bool, isi_tuple_int, isi_tuple_str, isi_tuple_tuple, isi_tuple_list, isi_list_bool, isi_list_int, isi_list_str, isi_list_tuple, isi_list_list, isi_nonetype_bool, isi_nonetype_int, isi_nonetype_str, isi_nonetype_tuple, isi_nonetype_list, isi_T, eh, e1, e2, hc1]
    have hdr := List.drop_eq_getElem_cons hlt
    refine br_mk (fun hq => ?_) (fun hq => ?_)
    · simp [ok_some, ok_none, br_true, br_false, req_true, req_false, okFz_b, dAdd_lst, dAdd_tp, take_nil, take_ex, take_bo, put_nil, put_bo, put_ex, outs, fxOf, ofStr_inj, dAdd_int, dSub_eq, clean, cleans, isN, dDictD_1, itemsS_1, dJoin_1, dStrF_1, dAdd_str, mPairs_nil, mPairs_cons, dMin2_1, dMax2_1, dAbs_1, dIntF_1, dIntF_2, isDic_d, isDic_v, isDic_t, isDic_l, dKey_i, dKey_s, dKx_i, dKx_s, dKin_i, dKin_s, getD_nil, getD_cons, hasK_nil, hasK_cons, putD_eq, mergeD_nil, mergeD_cons, dInF, dFdiv_eq, dMod_eq, dMul_r, dMul_l, dPow_eq, dShr_eq, dLt_eq, dLe_eq, dGt_eq, dGe_eq, dEq_int, dNe_int, dEq_bl, dNe_bl, dEq_str, dNe_str, atI_z, atI_lit, atI_n, ixN_lit, ixN_n, fz, fzs, fzO, wipeD, dIx_l, dIx_t, gNl_1, csK_1, gCs_1, gTu_1, itemsL_1, itemsT_1, mRng_1, mRng_2, dTup_1, dLst_1, setSlot_1, setK_1, gNm_1, dLen_l, dLen_t, dTuple_l, dTuple_t, dList_l, dList_t, oNo_1, oK_1, slK_1, slK1_1, slK2_1, dCut_l, dCut_t, isi_bool_bool, isi_bool_int, isi_bool_str, isi_bool_tuple, isi_bool_list, isi_int_bool, isi_int_int, isi_int_str, isi_int_tuple, isi_int_list, isi_str_bool, isi_str_int, isi_str_str, isi_str_tuple, isi_str_list, isi_tuple_bool, isi_tuple_int, isi_tuple_str, isi_tuple_tuple, isi_tuple_list, isi_list_bool, isi_list_int, isi_list_str, isi_list_tuple, isi_list_list, isi_nonetype_bool, isi_nonetype_int, isi_nonetype_str, isi_nonetype_tuple, isi_nonetype_list, isi_T, mAugV, mC_e]
      refine Leaf.mk ⟨w.length - (b + 1), by omega, b + 1, by simp, by omega, by omega, rfl, ?_⟩
      rw [ht, hdr, List.takeWhile_cons, if_pos hq, show b + 1 - a = (b - a) + 1 by omega, List.take_add_one]
      have : (w.drop a)[b - a]? = some w[b] := by
        rw [List.getElem?_drop, show a + (b - a) = b by omega, List.getElem?_eq_getElem hlt]
      rw [this]; simp
    · rw [hdr, List.takeWhile_cons, if_neg hq, List.append_nil] at ht
      have hl : ((w.drop a).takeWhile p).length = b - a := by rw [ht, List.length_take, List.length_drop]; omega
      have e := dCut_C w hw a b hab
      rw [← ht] at e
      simp [ok_some, ok_none, br_true, br_false, req_true, req_false, okFz_b, dAdd_lst, dAdd_tp, take_nil, take_ex, take_bo, put_nil, put_bo, put_ex, outs, fxOf, ofStr_inj, dAdd_int, dSub_eq, clean, cleans, isN, dDictD_1, itemsS_1, dJoin_1, dStrF_1, dAdd_str, mPairs_nil, mPairs_cons, dMin2_1, dMax2_1, dAbs_1, dIntF_1, dIntF_2, isDic_d, isDic_v, isDic_t, isDic_l, dKey_i, dKey_s, dKx_i, dKx_s, dKin_i, dKin_s, getD_nil, getD_cons, hasK_nil, hasK_cons, putD_eq, mergeD_nil, mergeD_cons, dInF, dFdiv_eq, dMod_eq, dMul_r, dMul_l, dPow_eq, dShr_eq, dLt_eq, dLe_eq, dGt_eq, dGe_eq, dEq_int, dNe_int, dEq_bl, dNe_bl, dEq_str, dNe_str, atI_z, atI_lit, atI_n, ixN_lit, ixN_n, fz, fzs, fzO, wipeD, dIx_l, dIx_t, gNl_1, csK_1, gCs_1, gTu_1, itemsL_1, itemsT_1, mRng_1, mRng_2, dTup_1, dLst_1, setSlot_1, setK_1, gNm_1, dLen_l, dLen_t, dTuple_l, dTuple_t, dList_l, dList_t, oNo_1, oK_1, slK_1, slK1_1, slK2_1, dCut_l, dCut_t, isi_bool_bool, isi_bool_int, isi_bool_str, isi_bool_tuple, isi_bool_list, isi_int_bool, isi_int_int, isi_int_str, isi_int_tuple, isi_int_list, isi_str_bool, isi_str_int, isi_str_str, isi_str_tuple, isi_str_list, isi_tuple_bool, isi_tuple_int, isi_tuple_str, isi_tuple_tuple, isi_tuple_list, isi_list_bool, isi_list_int, isi_list_str, isi_list_tuple, isi_list_list, isi_nonetype_bool, isi_nonetype_int, isi_nonetype_str, isi_nonetype_tuple, isi_nonetype_list, isi_T, hc, hf, e]
      refine Leaf.mk ?_
      omega
  · rw [hereC_nil (by omega)] at eh
    have hc1 := @clean_C1 []
    rw [List.drop_of_length_le (show w.length ≤ b by omega), List.takeWhile_nil, List.append_nil] at ht
    have hl : ((w.drop a).takeWhile p).length = b - a := by rw [ht, List.length_take, List.length_drop]; omega
    have e := dCut_C w hw a b hab
    rw [← ht] at e
    simp [ok_some, ok_none, br_true, br_false, req_true, req_false, okFz_b, dAdd_lst, dAdd_tp, take_nil, take_ex, take_bo, put_nil, put_bo, put_ex, outs, fxOf, ofStr_inj, dAdd_int, dSub_eq, clean, cleans, isN, dDictD_1, itemsS_1, dJoin_1, dStrF_1, dAdd_str, mPairs_nil, mPairs_cons, dMin2_1, dMax2_1, dAbs_1, dIntF_1, dIntF_2, isDic_d, isDic_v, isDic_t, isDic_l, dKey_i, dKey_s, dKx_i, dKx_s, dKin_i, dKin_s, getD_nil, getD_cons, hasK_nil, hasK_cons, putD_eq, mergeD_nil, mergeD_cons, dInF, dFdiv_eq, dMod_eq, dMul_r, dMul_l, dPow_eq, dShr_eq, dLt_eq, dLe_eq, dGt_eq, dGe_eq, dEq_int, dNe_int, dEq_bl, dNe_bl, dEq_str, dNe_str, atI_z, atI_lit, atI_n, ixN_lit, ixN_n, fz, fzs, fzO, wipeD, dIx_l, dIx_t, gNl_1, csK_1, gCs_1, gTu_1, itemsL_1, itemsT_1, mRng_1, mRng_2, dTup_1, dLst_1, setSlot_1, setK_1, gNm_1, dLen_l, dLen_t, dTuple_l, dTuple_t, dList_l, dList_t, oNo_1, oK_1, slK_1, slK1_1, slK2_1, dCut_l, dCut_t, isi_bool_bool, isi_bool_int, isi_bool_str, isi_bool_tuple, isi_bool_list, isi_int_bool, isi_int_int, isi_int_str, isi_int_tuple, isi_int_list, isi_str_bool, isi_str_int, isi_str_str, isi_str_tuple, isi_str_list, isi_tuple_bool, isi_tuple_int, isi_tuple_str, isi_tuple_tuple, isi_tuple_list, isi_list_bool, isi_list_int, isi_list_str, isi_list_tuple, isi_list_list, isi_nonetype_bool, isi_nonetype_int, isi_nonetype_str, isi_nonetype_tuple, isi_nonetype_list, isi_T, eh, hr_nil, hc, hf, hc1, e]
    refine Leaf.mk ?_
    omega
end My
set_option exponentiation.threshold 10000
namespace My
open PySem L2 Z
/-! ### names -/
def lett (c : Nat) : Bool := decide (97 ≤ c ∧ c ≤ 122)
def barN : List (List Nat) := [[98, 111, 120], [109, 97, 114, 107], [97, 115, 107], [112, 117, 116], [103, 111], [105, 102], [115, 116, 111, 112], [105, 110], [110, 111, 116]]
def nameB (l : List Nat) : Bool := decide (1 ≤ l.length ∧ l.length ≤ 8) && !decide (l ∈ barN) && l.all lett
theorem tC_inj {a b : List Nat} : (⟨a.toArray⟩ : Str) = ⟨b.toArray⟩ ↔ a = b := by
  constructor
  · intro h; injection h with h; simpa using h
  · rintro rfl; rfl
theorem flat_C (ns : List (List Nat)) : flatsD (ns.map tC) = some (ns.map fun l => V.str ⟨l.toArray⟩) := by
  induction ns with
  | nil => rfl
  | cons n ns ih => rw [List.map_cons, flatsD, ih]; rfl
theorem in_Ck (l : List Nat) (ns : List (List Nat)) : dIn (tC l) (.ktp (ns.map tC)) = some (.v (.bl (decide (l ∈ ns)))) := by
  unfold dIn dInB
  simp only [flat_C]
  have e : flatD (tC l) = some (.str ⟨l.toArray⟩) := rfl
  rw [e]
  simp only [Option.map_some]
  have : inV (.str ⟨l.toArray⟩) (ns.map fun l => V.str ⟨l.toArray⟩) = decide (l ∈ ns) := by
    rw [Bool.eq_iff_iff, decide_eq_true_iff]
    unfold inV
    rw [List.any_eq_true]
    constructor
    · rintro ⟨x, hx, h⟩
      obtain ⟨m, hm, rfl⟩ := List.mem_map.mp hx
      have : (⟨m.toArray⟩ : Str) = ⟨l.toArray⟩ := by simpa [eqV] using h
      rw [tC_inj] at this; subst this; exact hm
    · intro h
      exact ⟨_, List.mem_map.mpr ⟨l, h, rfl⟩, by simp [eqV]⟩
  rw [this]
theorem bar_eq : c_BARRED = .ktp (barN.map tC) := by
  have e : ∀ (s : String) (l : List Nat), Str.ofString s = ⟨l.toArray⟩ → D.v (.str (Str.ofString s)) = tC l := fun s l h => by rw [h]; rfl
  unfold c_BARRED barN
  simp only [List.map_cons, List.map_nil]
  rw [e "box" [98, 111, 120] (by decide +kernel), e "mark" [109, 97, 114, 107] (by decide +kernel), e "ask" [97, 115, 107] (by decide +kernel), e "put" [112, 117, 116] (by decide +kernel), e "go" [103, 111] (by decide +kernel), e "if" [105, 102] (by decide +kernel), e "stop" [115, 116, 111, 112] (by decide +kernel), e "in" [105, 110] (by decide +kernel), e "not" [110, 111, 116] (by decide +kernel)]
theorem bar_in (l : List Nat) : dIn (tC l) c_BARRED = some (.v (.bl (decide (l ∈ barN)))) := by
  rw [bar_eq]
  exact in_Ck l barN
theorem let_run : ∀ c ∈ List.range 128, decide (c ∈ (Str.ofString "abcdefghijklmnopqrstuvwxyz").cps.toList) = lett c := by decide +kernel
theorem nm_loop (x0 : Option D) : ∀ (l : List Nat), (∀ c ∈ l, c < 128) → lcL (gNm 1) (mTst (mOp dNin (mVar 1) (mK c_LETTERS))) (mVar 1) [1] (l.map fun c => tC [c]) [x0, none] = some ((l.filter fun c => !lett c).map (fun c => tC [c]), [x0, none]) := by
  intro l
  induction l with
  | nil => intro _; rfl
  | cons c cs ih =>
    intro h
    have i1 : dInB (tC [c]) c_LETTERS = some (lett c) := by rw [← let_run c (List.mem_range.mpr (h c (by simp)))]; rfl
    have ih := ih fun d hd => h d (by simp [hd])
    have hcl : clean c_LETTERS = true := rfl
    have hc1 := @clean_C1 [c]
    rw [List.map_cons, lcL_cons]
    cases hc : lett c
    · simp [fnM_k, mSeq_k, mIf_k, mIfE_k, mOp_k, mLook_k, mVar_k, mMove_k, mTst_k, mAnd_k, mOr_k, mNot_k, mAndV_k, mOrV_k, mNotV_k, mNeg_k, mAsg_k, mRet_k, mRetN, mDrop_k, mSkip, mC, mK, mCons_k, mNil, mFn_k, mSetIx_k, mAug_k, mAppend_k, mAsgT_k, mIt_k, mRngA_k, mFor_k, mLc_k, mCall_k, mArgs_nil, mArgs_ex, mArgs_bo, take_nil, take_ex, take_bo, put_nil, put_bo, put_ex, outs, fxOf, ofStr_inj, dAdd_int, dSub_eq, clean, cleans, mIsN_k, mIsNV_k, isN, mPutK_k, mNewK_k, dDictD_1, mFrz_k, orFz_k, fzAt_k, mPar_k, mEnum_k, mZip_k, mLookL_k, mMt_k, itemsS_1, dJoin_1, dStrF_1, dAdd_str, mChn_k, mRev_k, mExtend_k, mPop_k, mClear_k, mLookA_k, mLookR_k, mInV_k, mPairs_nil, mPairs_cons, mDisp_k, dMin2_1, dMax2_1, dAbs_1, dIntF_1, dIntF_2, isDic_d, isDic_v, isDic_t, isDic_k, isDic_l, dKey_i, dKey_s, dKx_i, dKx_s, dKin_i, dKin_s, getD_nil, getD_cons, hasK_nil, hasK_cons, putD_eq, mergeD_nil, mergeD_cons, dInF, dFdiv_eq, dMod_eq, dMul_r, dMul_l, dPow_eq, dShr_eq, dLt_eq, dLe_eq, dGt_eq, dGe_eq, dEq_int, dNe_int, dEq_bl, dNe_bl, dEq_str, dNe_str, atI_z, atI_lit, atI_n, ixN_lit, ixN_n, fz, fzs, fzO, mYes, wipeD, mBrk, mCnt, seqK_1, seqK_2, seqK_3, seqK_4, seqK_5, ifK_1, ifK_2, ifK_3, opK3_1, opK3_2, opK2_1, opK2_2, opK_1, opK_2, lookK3_1, lookK3_2, lookK2_1, lookK2_2, lookK1_1, lookK1_2, lookK_1, lookK_2, varK_1, varK_2, moveK_1, moveK_2, tstK_1, tstK_2, andK_1, andK_2, andK_3, orK_1, orK_2, orK_3, notK_1, notK_2, andVK_1, andVK_2, andVK_3, orVK_1, orVK_2, orVK_3, notVK_1, notVK_2, negK_1, negK_2, asgK_1, asgK_2, retK_1, retK_2, dropK_1, dropK_2, consK2_1, consK2_2, consK_1, consK_2, fnK_1, fnK_2, setIxK3_1, setIxK3_2, setIxK2_1, setIxK2_2, setIxK1_1, setIxK1_2, setIxK0_1, setIxK0_2, setIxK_1, setIxK_2, augK2_1, augK2_2, augK_1, augK_2, appendK1_1, appendK1_2, appendK0_1, appendK0_2, appendK_1, appendK_2, asgTK2_1, asgTK2_2, asgTK_1, asgTK_2, itK2_1, itK2_2, itK_1, itK_2, rngK_1, rngK_2, forK_1, forK_2, turnK_1, turnK_2, turnK_3, turnK_4, turnK_5, turnK0_1, turnK0_2, lcK1_1, lcK1_2, lcK_1, lcK_2, lcT2_1, lcT2_2, lcT1_1, lcT1_2, lcT1_3, lcT0_1, lcT0_2, callK2_1, callK2_2, callK1_1, callK1_2, callK_1, callK_2, argK2_1, argK2_2, argK_1, argK_2, argB_1, argB_2, takeK_1, takeK_2, takeB_1, takeB_2, fnMK_1, fnMK_2, fnMK_3, isNK_1, isNK_2, isNVK_1, isNVK_2, chnK3_1, chnK3_2, chnK2_1, chnK2_2, chnK_1, chnK_2, revK_1, revK_2, extendK1_1, extendK1_2, extendK0_1, extendK0_2, extendK0_3, extendK_1, extendK_2, popK2_1, popK2_2, popK_1, popK_2, clearK_1, clearK_2, lookAK_1, lookAK_2, lookRK2_1, lookRK2_2, lookRK_1, lookRK_2, inVK_1, inVK_2, pairsK4_1, pairsK4_2, pairsK3_1, pairsK3_2, pairsK2_1, pairsK2_2, pairsK_1, pairsK_2, dispK2_1, dispK2_2, dispK_1, dispK_2, mergeK__1, mergeK__2, parK2_1, parK2_2, parK_1, parK_2, enumK_1, enumK_2, zipK_1, zipK_2, lookLK_1, lookLK_2, mtK2_1, mtK2_2, mtK_1, mtK_2, orFzK_1, orFzK_2, fzAtK_1, fzAtK_2, frzK_1, frzK_2, putKK5_1, putKK5_2, putKK4_1, putKK4_2, putKK3_1, putKK3_2, putKK2_1, putKK2_2, putKK1_1, putKK1_2, putKK_1, putKK_2, dIx_l, dIx_t, dIx_k, gNl_1, csK_1, gCs_1, gTu_1, itemsL_1, itemsT_1, mRng_1, mRng_2, dTup_1, dLst_1, setSlot_1, setK_1, gNm_1, dLen_l, dLen_t, dTuple_l, dTuple_t, dList_l, dList_t, oNo_1, oYes_k, oK_1, mSl_k, slK_1, slK1_1, slK2_1, dCut_l, dCut_t, dNin, i1, ih, hc, hcl, hc1]
    · simp [fnM_k, mSeq_k, mIf_k, mIfE_k, mOp_k, mLook_k, mVar_k, mMove_k, mTst_k, mAnd_k, mOr_k, mNot_k, mAndV_k, mOrV_k, mNotV_k, mNeg_k, mAsg_k, mRet_k, mRetN, mDrop_k, mSkip, mC, mK, mCons_k, mNil, mFn_k, mSetIx_k, mAug_k, mAppend_k, mAsgT_k, mIt_k, mRngA_k, mFor_k, mLc_k, mCall_k, mArgs_nil, mArgs_ex, mArgs_bo, take_nil, take_ex, take_bo, put_nil, put_bo, put_ex, outs, fxOf, ofStr_inj, dAdd_int, dSub_eq, clean, cleans, mIsN_k, mIsNV_k, isN, mPutK_k, mNewK_k, dDictD_1, mFrz_k, orFz_k, fzAt_k, mPar_k, mEnum_k, mZip_k, mLookL_k, mMt_k, itemsS_1, dJoin_1, dStrF_1, dAdd_str, mChn_k, mRev_k, mExtend_k, mPop_k, mClear_k, mLookA_k, mLookR_k, mInV_k, mPairs_nil, mPairs_cons, mDisp_k, dMin2_1, dMax2_1, dAbs_1, dIntF_1, dIntF_2, isDic_d, isDic_v, isDic_t, isDic_k, isDic_l, dKey_i, dKey_s, dKx_i, dKx_s, dKin_i, dKin_s, getD_nil, getD_cons, hasK_nil, hasK_cons, putD_eq, mergeD_nil, mergeD_cons, dInF, dFdiv_eq, dMod_eq, dMul_r, dMul_l, dPow_eq, dShr_eq, dLt_eq, dLe_eq, dGt_eq, dGe_eq, dEq_int, dNe_int, dEq_bl, dNe_bl, dEq_str, dNe_str, atI_z, atI_lit, atI_n, ixN_lit, ixN_n, fz, fzs, fzO, mYes, wipeD, mBrk, mCnt, seqK_1, seqK_2, seqK_3, seqK_4, seqK_5, ifK_1, ifK_2, ifK_3, opK3_1, opK3_2, opK2_1, opK2_2, opK_1, opK_2, lookK3_1, lookK3_2, lookK2_1, lookK2_2, lookK1_1, lookK1_2, lookK_1, lookK_2, varK_1, varK_2, moveK_1, moveK_2, tstK_1, tstK_2, andK_1, andK_2, andK_3, orK_1, orK_2, orK_3, notK_1, notK_2, andVK_1, andVK_2, andVK_3, orVK_1, orVK_2, orVK_3, notVK_1, notVK_2, negK_1, negK_2, asgK_1, asgK_2, retK_1, retK_2, dropK_1, dropK_2, consK2_1, consK2_2, consK_1, consK_2, fnK_1, fnK_2, setIxK3_1, setIxK3_2, setIxK2_1, setIxK2_2, setIxK1_1, setIxK1_2, setIxK0_1, setIxK0_2, setIxK_1, setIxK_2, augK2_1, augK2_2, augK_1, augK_2, appendK1_1, appendK1_2, appendK0_1, appendK0_2, appendK_1, appendK_2, asgTK2_1, asgTK2_2, asgTK_1, asgTK_2, itK2_1, itK2_2, itK_1, itK_2, rngK_1, rngK_2, forK_1, forK_2, turnK_1, turnK_2, turnK_3, turnK_4, turnK_5, turnK0_1, turnK0_2, lcK1_1, lcK1_2, lcK_1, lcK_2, lcT2_1, lcT2_2, lcT1_1, lcT1_2, lcT1_3, lcT0_1, lcT0_2, callK2_1, callK2_2, callK1_1, callK1_2, callK_1, callK_2, argK2_1, argK2_2, argK_1, argK_2, argB_1, argB_2, takeK_1, takeK_2, takeB_1, takeB_2, fnMK_1, fnMK_2, fnMK_3, isNK_1, isNK_2, isNVK_1, isNVK_2, chnK3_1, chnK3_2, chnK2_1, chnK2_2, chnK_1, chnK_2, revK_1, revK_2, extendK1_1, extendK1_2, extendK0_1, extendK0_2, extendK0_3, extendK_1, extendK_2, popK2_1, popK2_2, popK_1, popK_2, clearK_1, clearK_2, lookAK_1, lookAK_2, lookRK2_1, lookRK2_2, lookRK_1, lookRK_2, inVK_1, inVK_2, pairsK4_1, pairsK4_2, pairsK3_1, pairsK3_2, pairsK2_1, pairsK2_2, pairsK_1, pairsK_2, dispK2_1, dispK2_2, dispK_1, dispK_2, mergeK__1, mergeK__2, parK2_1, parK2_2, parK_1, parK_2, enumK_1, enumK_2, zipK_1, zipK_2, lookLK_1, lookLK_2, mtK2_1, mtK2_2, mtK_1, mtK_2, orFzK_1, orFzK_2, fzAtK_1, fzAtK_2, frzK_1, frzK_2, putKK5_1, putKK5_2, putKK4_1, putKK4_2, putKK3_1, putKK3_2, putKK2_1, putKK2_2, putKK1_1, putKK1_2, putKK_1, putKK_2, dIx_l, dIx_t, dIx_k, gNl_1, csK_1, gCs_1, gTu_1, itemsL_1, itemsT_1, mRng_1, mRng_2, dTup_1, dLst_1, setSlot_1, setK_1, gNm_1, dLen_l, dLen_t, dTuple_l, dTuple_t, dList_l, dList_t, oNo_1, oYes_k, oK_1, mSl_k, slK_1, slK1_1, slK2_1, dCut_l, dCut_t, dNin, i1, ih, hc, hcl, hc1]
theorem sl_items (l : List Nat) : itemsS (tC l) = some (l.map fun c => tC [c]) := rfl
theorem isname_ok (l : List Nat) (hl : ∀ c ∈ l, c < 128) (hn : l.length ≤ 10000) : F_is_name [tC l] = some (.v (.bl (nameB l)), [some (tC l)]) := by
  apply ok_is
  have hc := @clean_C1 l
  have hf := @fz_C1 l
  have eb := bar_in l
  have el : dLen [tC l] = some (tN l.length) := dLen_s (z := ⟨⟨l⟩⟩) (by rw [len_l]; omega)
  have hlp := nm_loop (some (tC l)) l hl
  have hi := sl_items l
  simp [ok_some, ok_none, br_true, br_false, req_true, req_false, okFz_b, dAdd_lst, dAdd_tp, take_nil, take_ex, take_bo, put_nil, put_bo, put_ex, outs, fxOf, ofStr_inj, dAdd_int, dSub_eq, clean, cleans, isN, dDictD_1, itemsS_1, dJoin_1, dStrF_1, dAdd_str, mPairs_nil, mPairs_cons, dMin2_1, dMax2_1, dAbs_1, dIntF_1, dIntF_2, isDic_d, isDic_v, isDic_t, isDic_l, dKey_i, dKey_s, dKx_i, dKx_s, dKin_i, dKin_s, getD_nil, getD_cons, hasK_nil, hasK_cons, putD_eq, mergeD_nil, mergeD_cons, dInF, dFdiv_eq, dMod_eq, dMul_r, dMul_l, dPow_eq, dShr_eq, dLt_eq, dLe_eq, dGt_eq, dGe_eq, dEq_int, dNe_int, dEq_bl, dNe_bl, dEq_str, dNe_str, atI_z, atI_lit, atI_n, ixN_lit, ixN_n, fz, fzs, fzO, wipeD, dIx_l, dIx_t, gNl_1, csK_1, gCs_1, gTu_1, itemsL_1, itemsT_1, mRng_1, mRng_2, dTup_1, dLst_1, setSlot_1, setK_1, gNm_1, dLen_l, dLen_t, dTuple_l, dTuple_t, dList_l, dList_t, oNo_1, oK_1, slK_1, slK1_1, slK2_1, dCut_l, dCut_t, isi_bool_bool, isi_bool_int, isi_bool_str, isi_bool_tuple, isi_bool_list, isi_int_bool, isi_int_int, isi_int_str, isi_int_tuple, isi_int_list, isi_str_bool, isi_str_int, isi_str_str, isi_str_tuple, isi_str_list, isi_tuple_bool, isi_tuple_int, isi_tuple_str, isi_tuple_tuple, isi_tuple_list, isi_list_bool, isi_list_int, isi_list_str, isi_list_tuple, isi_list_list, isi_nonetype_bool, isi_nonetype_int, isi_nonetype_str, isi_nonetype_tuple, isi_nonetype_list, isi_T, F_is_name, m_is_name, m_is_name_0, m_is_name_0_0, m_is_name_1, hc, hf, eb, el, c_LONGEST_NAME, hlp, hi]
  have hno : ∀ b : Bool, (1 ≤ l.length ∧ l.length ≤ 8) ∧ l ∉ barN → l.all lett = b → nameB l = b := fun b h1 h2 => by
    unfold nameB
    rw [decide_eq_true h1.1, decide_eq_false h1.2, h2]; rfl
  have hlay : lays 5 ((l.filter fun c => !lett c).map (fun c => tC [c])) = true := lay_ch fun c hc => hl c (List.mem_filter.mp hc).1
  refine br_mk (fun h1 => ?_) (fun h1 => ?_)
  · simp [ok_some, ok_none, br_true, br_false, req_true, req_false, okFz_b, dAdd_lst, dAdd_tp, take_nil, take_ex, take_bo, put_nil, put_bo, put_ex, outs, fxOf, ofStr_inj, dAdd_int, dSub_eq, clean, cleans, isN, dDictD_1, itemsS_1, dJoin_1, dStrF_1, dAdd_str, mPairs_nil, mPairs_cons, dMin2_1, dMax2_1, dAbs_1, dIntF_1, dIntF_2, isDic_d, isDic_v, isDic_t, isDic_l, dKey_i, dKey_s, dKx_i, dKx_s, dKin_i, dKin_s, getD_nil, getD_cons, hasK_nil, hasK_cons, putD_eq, mergeD_nil, mergeD_cons, dInF, dFdiv_eq, dMod_eq, dMul_r, dMul_l, dPow_eq, dShr_eq, dLt_eq, dLe_eq, dGt_eq, dGe_eq, dEq_int, dNe_int, dEq_bl, dNe_bl, dEq_str, dNe_str, atI_z, atI_lit, atI_n, ixN_lit, ixN_n, fz, fzs, fzO, wipeD, dIx_l, dIx_t, gNl_1, csK_1, gCs_1, gTu_1, itemsL_1, itemsT_1, mRng_1, mRng_2, dTup_1, dLst_1, setSlot_1, setK_1, gNm_1, dLen_l, dLen_t, dTuple_l, dTuple_t, dList_l, dList_t, oNo_1, oK_1, slK_1, slK1_1, slK2_1, dCut_l, dCut_t, isi_bool_bool, isi_bool_int, isi_bool_str, isi_bool_tuple, isi_bool_list, isi_int_bool, isi_int_int, isi_int_str, isi_int_tuple, isi_int_list, isi_str_bool, isi_str_int, isi_str_str, isi_str_tuple, isi_str_list, isi_tuple_bool, isi_tuple_int, isi_tuple_str, isi_tuple_tuple, isi_tuple_list, isi_list_bool, isi_list_int, isi_list_str, isi_list_tuple, isi_list_list, isi_nonetype_bool, isi_nonetype_int, isi_nonetype_str, isi_nonetype_tuple, isi_nonetype_list, isi_T]
    refine br_mk (fun h2 => ?_) (fun h2 => ?_)
    · simp [ok_some, ok_none, br_true, br_false, req_true, req_false, okFz_b, dAdd_lst, dAdd_tp, take_nil, take_ex, take_bo, put_nil, put_bo, put_ex, outs, fxOf, ofStr_inj, dAdd_int, dSub_eq, clean, cleans, isN, dDictD_1, itemsS_1, dJoin_1, dStrF_1, dAdd_str, mPairs_nil, mPairs_cons, dMin2_1, dMax2_1, dAbs_1, dIntF_1, dIntF_2, isDic_d, isDic_v, isDic_t, isDic_l, dKey_i, dKey_s, dKx_i, dKx_s, dKin_i, dKin_s, getD_nil, getD_cons, hasK_nil, hasK_cons, putD_eq, mergeD_nil, mergeD_cons, dInF, dFdiv_eq, dMod_eq, dMul_r, dMul_l, dPow_eq, dShr_eq, dLt_eq, dLe_eq, dGt_eq, dGe_eq, dEq_int, dNe_int, dEq_bl, dNe_bl, dEq_str, dNe_str, atI_z, atI_lit, atI_n, ixN_lit, ixN_n, fz, fzs, fzO, wipeD, dIx_l, dIx_t, gNl_1, csK_1, gCs_1, gTu_1, itemsL_1, itemsT_1, mRng_1, mRng_2, dTup_1, dLst_1, setSlot_1, setK_1, gNm_1, dLen_l, dLen_t, dTuple_l, dTuple_t, dList_l, dList_t, oNo_1, oK_1, slK_1, slK1_1, slK2_1, dCut_l, dCut_t, isi_bool_bool, isi_bool_int, isi_bool_str, isi_bool_tuple, isi_bool_list, isi_int_bool, isi_int_int, isi_int_str, isi_int_tuple, isi_int_list, isi_str_bool, isi_str_int, isi_str_str, isi_str_tuple, isi_str_list, isi_tuple_bool, isi_tuple_int, isi_tuple_str, isi_tuple_tuple, isi_tuple_list, isi_list_bool, isi_list_int, isi_list_str, isi_list_tuple, isi_list_list, isi_nonetype_bool, isi_nonetype_int, isi_nonetype_str, isi_nonetype_tuple, isi_nonetype_list, isi_T]
      unfold nameB
      rw [decide_eq_false (by omega)]; rfl
    · by_cases h3 : l ∈ barN
      · rw [decide_eq_true h3] at eb
        simp [ok_some, ok_none, br_true, br_false, req_true, req_false, okFz_b, dAdd_lst, dAdd_tp, take_nil, take_ex, take_bo, put_nil, put_bo, put_ex, outs, fxOf, ofStr_inj, dAdd_int, dSub_eq, clean, cleans, isN, dDictD_1, itemsS_1, dJoin_1, dStrF_1, dAdd_str, mPairs_nil, mPairs_cons, dMin2_1, dMax2_1, dAbs_1, dIntF_1, dIntF_2, isDic_d, isDic_v, isDic_t, isDic_l, dKey_i, dKey_s, dKx_i, dKx_s, dKin_i, dKin_s, getD_nil, getD_cons, hasK_nil, hasK_cons, putD_eq, mergeD_nil, mergeD_cons, dInF, dFdiv_eq, dMod_eq, dMul_r, dMul_l, dPow_eq, dShr_eq, dLt_eq, dLe_eq, dGt_eq, dGe_eq, dEq_int, dNe_int, dEq_bl, dNe_bl, dEq_str, dNe_str, atI_z, atI_lit, atI_n, ixN_lit, ixN_n, fz, fzs, fzO, wipeD, dIx_l, dIx_t, gNl_1, csK_1, gCs_1, gTu_1, itemsL_1, itemsT_1, mRng_1, mRng_2, dTup_1, dLst_1, setSlot_1, setK_1, gNm_1, dLen_l, dLen_t, dTuple_l, dTuple_t, dList_l, dList_t, oNo_1, oK_1, slK_1, slK1_1, slK2_1, dCut_l, dCut_t, isi_bool_bool, isi_bool_int, isi_bool_str, isi_bool_tuple, isi_bool_list, isi_int_bool, isi_int_int, isi_int_str, isi_int_tuple, isi_int_list, isi_str_bool, isi_str_int, isi_str_str, isi_str_tuple, isi_str_list, isi_tuple_bool, isi_tuple_int, isi_tuple_str, isi_tuple_tuple, isi_tuple_list, isi_list_bool, isi_list_int, isi_list_str, isi_list_tuple, isi_list_list, isi_nonetype_bool, isi_nonetype_int, isi_nonetype_str, isi_nonetype_tuple, isi_nonetype_list, isi_T, eb, hc, hf]
        unfold nameB
        rw [decide_eq_true h3]; simp
      · rw [decide_eq_false h3] at eb
        simp [ok_some, ok_none, br_true, br_false, req_true, req_false, okFz_b, dAdd_lst, dAdd_tp, take_nil, take_ex, take_bo, put_nil, put_bo, put_ex, outs, fxOf, ofStr_inj, dAdd_int, dSub_eq, clean, cleans, isN, dDictD_1, itemsS_1, dJoin_1, dStrF_1, dAdd_str, mPairs_nil, mPairs_cons, dMin2_1, dMax2_1, dAbs_1, dIntF_1, dIntF_2, isDic_d, isDic_v, isDic_t, isDic_l, dKey_i, dKey_s, dKx_i, dKx_s, dKin_i, dKin_s, getD_nil, getD_cons, hasK_nil, hasK_cons, putD_eq, mergeD_nil, mergeD_cons, dInF, dFdiv_eq, dMod_eq, dMul_r, dMul_l, dPow_eq, dShr_eq, dLt_eq, dLe_eq, dGt_eq, dGe_eq, dEq_int, dNe_int, dEq_bl, dNe_bl, dEq_str, dNe_str, atI_z, atI_lit, atI_n, ixN_lit, ixN_n, fz, fzs, fzO, wipeD, dIx_l, dIx_t, gNl_1, csK_1, gCs_1, gTu_1, itemsL_1, itemsT_1, mRng_1, mRng_2, dTup_1, dLst_1, setSlot_1, setK_1, gNm_1, dLen_l, dLen_t, dTuple_l, dTuple_t, dList_l, dList_t, oNo_1, oK_1, slK_1, slK1_1, slK2_1, dCut_l, dCut_t, isi_bool_bool, isi_bool_int, isi_bool_str, isi_bool_tuple, isi_bool_list, isi_int_bool, isi_int_int, isi_int_str, isi_int_tuple, isi_int_list, isi_str_bool, isi_str_int, isi_str_str, isi_str_tuple, isi_str_list, isi_tuple_bool, isi_tuple_int, isi_tuple_str, isi_tuple_tuple, isi_tuple_list, isi_list_bool, isi_list_int, isi_list_str, isi_list_tuple, isi_list_list, isi_nonetype_bool, isi_nonetype_int, isi_nonetype_str, isi_nonetype_tuple, isi_nonetype_list, isi_T, eb, hi, hc, hf]
        refine req_mk (by omega) ?_
        show @Ok _ (lcL _ _ _ _ (List.map (fun c => tC [c]) l) [some (tC l), none]) ⟨_⟩
        rw [hlp]
        simp [ok_some, ok_none, br_true, br_false, req_true, req_false, okFz_b, dAdd_lst, dAdd_tp, take_nil, take_ex, take_bo, put_nil, put_bo, put_ex, outs, fxOf, ofStr_inj, dAdd_int, dSub_eq, clean, cleans, isN, dDictD_1, itemsS_1, dJoin_1, dStrF_1, dAdd_str, mPairs_nil, mPairs_cons, dMin2_1, dMax2_1, dAbs_1, dIntF_1, dIntF_2, isDic_d, isDic_v, isDic_t, isDic_l, dKey_i, dKey_s, dKx_i, dKx_s, dKin_i, dKin_s, getD_nil, getD_cons, hasK_nil, hasK_cons, putD_eq, mergeD_nil, mergeD_cons, dInF, dFdiv_eq, dMod_eq, dMul_r, dMul_l, dPow_eq, dShr_eq, dLt_eq, dLe_eq, dGt_eq, dGe_eq, dEq_int, dNe_int, dEq_bl, dNe_bl, dEq_str, dNe_str, atI_z, atI_lit, atI_n, ixN_lit, ixN_n, fz, fzs, fzO, wipeD, dIx_l, dIx_t, gNl_1, csK_1, gCs_1, gTu_1, itemsL_1, itemsT_1, mRng_1, mRng_2, dTup_1, dLst_1, setSlot_1, setK_1, gNm_1, dLen_l, dLen_t, dTuple_l, dTuple_t, dList_l, dList_t, oNo_1, oK_1, slK_1, slK1_1, slK2_1, dCut_l, dCut_t, isi_bool_bool, isi_bool_int, isi_bool_str, isi_bool_tuple, isi_bool_list, isi_int_bool, isi_int_int, isi_int_str, isi_int_tuple, isi_int_list, isi_str_bool, isi_str_int, isi_str_str, isi_str_tuple, isi_str_list, isi_tuple_bool, isi_tuple_int, isi_tuple_str, isi_tuple_tuple, isi_tuple_list, isi_list_bool, isi_list_int, isi_list_str, isi_list_tuple, isi_list_list, isi_nonetype_bool, isi_nonetype_int, isi_nonetype_str, isi_nonetype_tuple, isi_nonetype_list, isi_T]
        rw [dEq_nil hlay (by decide)]
        simp [ok_some, ok_none, br_true, br_false, req_true, req_false, okFz_b, dAdd_lst, dAdd_tp, take_nil, take_ex, take_bo, put_nil, put_bo, put_ex, outs, fxOf, ofStr_inj, dAdd_int, dSub_eq, clean, cleans, isN, dDictD_1, itemsS_1, dJoin_1, dStrF_1, dAdd_str, mPairs_nil, mPairs_cons, dMin2_1, dMax2_1, dAbs_1, dIntF_1, dIntF_2, isDic_d, isDic_v, isDic_t, isDic_l, dKey_i, dKey_s, dKx_i, dKx_s, dKin_i, dKin_s, getD_nil, getD_cons, hasK_nil, hasK_cons, putD_eq, mergeD_nil, mergeD_cons, dInF, dFdiv_eq, dMod_eq, dMul_r, dMul_l, dPow_eq, dShr_eq, dLt_eq, dLe_eq, dGt_eq, dGe_eq, dEq_int, dNe_int, dEq_bl, dNe_bl, dEq_str, dNe_str, atI_z, atI_lit, atI_n, ixN_lit, ixN_n, fz, fzs, fzO, wipeD, dIx_l, dIx_t, gNl_1, csK_1, gCs_1, gTu_1, itemsL_1, itemsT_1, mRng_1, mRng_2, dTup_1, dLst_1, setSlot_1, setK_1, gNm_1, dLen_l, dLen_t, dTuple_l, dTuple_t, dList_l, dList_t, oNo_1, oK_1, slK_1, slK1_1, slK2_1, dCut_l, dCut_t, isi_bool_bool, isi_bool_int, isi_bool_str, isi_bool_tuple, isi_bool_list, isi_int_bool, isi_int_int, isi_int_str, isi_int_tuple, isi_int_list, isi_str_bool, isi_str_int, isi_str_str, isi_str_tuple, isi_str_list, isi_tuple_bool, isi_tuple_int, isi_tuple_str, isi_tuple_tuple, isi_tuple_list, isi_list_bool, isi_list_int, isi_list_str, isi_list_tuple, isi_list_list, isi_nonetype_bool, isi_nonetype_int, isi_nonetype_str, isi_nonetype_tuple, isi_nonetype_list, isi_T]
        refine (hno _ ⟨by omega, h3⟩ ?_).symm
        rw [Bool.eq_iff_iff, List.all_eq_true, List.isEmpty_iff, List.filter_eq_nil_iff]
        exact ⟨fun h c hc => by rw [h c hc]; decide, fun h c hc => by have := h c hc; cases hq : lett c with | true => rfl | false => rw [hq] at this; exact absurd rfl this⟩
  · simp [ok_some, ok_none, br_true, br_false, req_true, req_false, okFz_b, dAdd_lst, dAdd_tp, take_nil, take_ex, take_bo, put_nil, put_bo, put_ex, outs, fxOf, ofStr_inj, dAdd_int, dSub_eq, clean, cleans, isN, dDictD_1, itemsS_1, dJoin_1, dStrF_1, dAdd_str, mPairs_nil, mPairs_cons, dMin2_1, dMax2_1, dAbs_1, dIntF_1, dIntF_2, isDic_d, isDic_v, isDic_t, isDic_l, dKey_i, dKey_s, dKx_i, dKx_s, dKin_i, dKin_s, getD_nil, getD_cons, hasK_nil, hasK_cons, putD_eq, mergeD_nil, mergeD_cons, dInF, dFdiv_eq, dMod_eq, dMul_r, dMul_l, dPow_eq, dShr_eq, dLt_eq, dLe_eq, dGt_eq, dGe_eq, dEq_int, dNe_int, dEq_bl, dNe_bl, dEq_str, dNe_str, atI_z, atI_lit, atI_n, ixN_lit, ixN_n, fz, fzs, fzO, wipeD, dIx_l, dIx_t, gNl_1, csK_1, gCs_1, gTu_1, itemsL_1, itemsT_1, mRng_1, mRng_2, dTup_1, dLst_1, setSlot_1, setK_1, gNm_1, dLen_l, dLen_t, dTuple_l, dTuple_t, dList_l, dList_t, oNo_1, oK_1, slK_1, slK1_1, slK2_1, dCut_l, dCut_t, isi_bool_bool, isi_bool_int, isi_bool_str, isi_bool_tuple, isi_bool_list, isi_int_bool, isi_int_int, isi_int_str, isi_int_tuple, isi_int_list, isi_str_bool, isi_str_int, isi_str_str, isi_str_tuple, isi_str_list, isi_tuple_bool, isi_tuple_int, isi_tuple_str, isi_tuple_tuple, isi_tuple_list, isi_list_bool, isi_list_int, isi_list_str, isi_list_tuple, isi_list_list, isi_nonetype_bool, isi_nonetype_int, isi_nonetype_str, isi_nonetype_tuple, isi_nonetype_list, isi_T]
    unfold nameB
    rw [decide_eq_false (by omega)]; rfl
end My
set_option exponentiation.threshold 10000
namespace My
open PySem L2 Z
/-! ### expressions, as they are read -/
inductive Ex where
  | num (n : Nat)
  | box (l : List Nat)
  | op (c : Nat) (x y : Ex)
def encX : Ex → D
  | .num n => .tup [tS "number", tN n]
  | .box l => .tup [tS "box", tC l]
  | .op c x y => .tup [tC [c], encX x, encX y]
theorem clean_X : ∀ e : Ex, clean (encX e) = true
  | .num n => rfl
  | .box l => by have := @clean_C1 l; simp [encX, clean, cleans, this]
  | .op c x y => by
    have h1 := clean_X x
    have h2 := clean_X y
    have h3 := @clean_C1 [c]
    simp [encX, clean, cleans, h1, h2, h3]
def numL (l : List Nat) : Nat := l.foldl (fun n c => n * 10 + (c - 48)) 0
def pBr (S : Nat → List Nat → Option (Ex × List Nat)) (d : Nat) (s : List Nat) : Option (Ex × List Nat) :=
  if d + 1 > 5 then none else match S (d + 1) s with
    | some (e, 41 :: r) => some (e, r)
    | _ => none
def pFac (S : Nat → List Nat → Option (Ex × List Nat)) (d : Nat) (s : List Nat) : Option (Ex × List Nat) := match s with
  | 40 :: r => pBr S d r
  | _ => if plainB (s.takeWhile dig) = true then some (.num (numL (s.takeWhile dig)), s.dropWhile dig)
    else if s.takeWhile dig = [] ∧ nameB ((s.dropWhile dig).takeWhile lett) = true then some (.box ((s.dropWhile dig).takeWhile lett), (s.dropWhile dig).dropWhile lett) else none
def pTerL (S : Nat → List Nat → Option (Ex × List Nat)) (d : Nat) : Nat → Ex → List Nat → Option (Ex × List Nat)
  | 0, e, r => if r.head? = some 42 then none else some (e, r)
  | k + 1, e, r => match r with
    | 42 :: r1 => match pFac S d r1 with
      | some (f, r2) => pTerL S d k (.op 42 e f) r2
      | none => none
    | _ => some (e, r)
def pTer (S : Nat → List Nat → Option (Ex × List Nat)) (d : Nat) (s : List Nat) : Option (Ex × List Nat) := match pFac S d s with
  | some (e, r) => pTerL S d r.length e r
  | none => none
def isPM (c : Nat) : Bool := decide (c = 43 ∨ c = 45)
def pSumL (S : Nat → List Nat → Option (Ex × List Nat)) (d : Nat) : Nat → Ex → List Nat → Option (Ex × List Nat)
  | 0, e, r => match r with
    | c :: _ => if isPM c = true then none else some (e, r)
    | [] => some (e, r)
  | k + 1, e, r => match r with
    | c :: r1 => if isPM c = true then match pTer S d r1 with
      | some (f, r2) => pSumL S d k (.op c e f) r2
      | none => none else some (e, r)
    | [] => some (e, r)
def pSum : Nat → Nat → List Nat → Option (Ex × List Nat)
  | 0 => fun _ _ => none
  | n + 1 => fun d s => match pTer (pSum n) d s with
    | some (e, r) => pSumL (pSum n) d r.length e r
    | none => none
/-! what is left is a tail -/
def SufP (P : Nat → List Nat → Option (Ex × List Nat)) : Prop := ∀ d s e r, P d s = some (e, r) → ∃ p, p ≠ [] ∧ s = p ++ r
theorem pBr_suf {S} (h : SufP S) : ∀ d s e r, pBr S d s = some (e, r) → ∃ p, p ≠ [] ∧ s = p ++ r := by
  intro d s e r q
  unfold pBr at q
  split at q
  · cases q
  · split at q
    · rename_i e' r' hs
      cases q
      obtain ⟨p, hp, rfl⟩ := h _ _ _ _ hs
      exact ⟨p ++ [41], by simp, by simp⟩
    · cases q
theorem pFac_suf {S} (h : SufP S) : SufP (pFac S) := by
  intro d s e r q
  unfold pFac at q
  split at q
  · obtain ⟨p, hp, rfl⟩ := pBr_suf h _ _ _ _ q
    exact ⟨40 :: p, by simp, rfl⟩
  · split at q
    · rename_i hpl
      cases q
      exact ⟨s.takeWhile dig, (fun z => by rw [z] at hpl; cases hpl), (List.takeWhile_append_dropWhile).symm⟩
    · split at q
      · rename_i hn
        cases q
        refine ⟨(s.dropWhile dig).takeWhile lett, (fun z => by rw [z] at hn; simp [nameB] at hn), ?_⟩
        have h1 := List.takeWhile_append_dropWhile (p := dig) (l := s)
        rw [hn.1, List.nil_append] at h1
        rw [List.takeWhile_append_dropWhile, h1]
      · cases q
theorem pTerL_suf {S} (h : SufP S) (d : Nat) : ∀ k e s e' r, pTerL S d k e s = some (e', r) → ∃ p, s = p ++ r := by
  intro k
  induction k with
  | zero => intro e s e' r q; unfold pTerL at q; split at q; cases q; cases q; exact ⟨[], rfl⟩
  | succ k ih =>
    intro e s e' r q
    unfold pTerL at q
    split at q
    · split at q
      · rename_i f r2 hf
        obtain ⟨p, rfl⟩ := ih _ _ _ _ q
        obtain ⟨p2, _, rfl⟩ := pFac_suf h _ _ _ _ hf
        exact ⟨42 :: (p2 ++ p), by simp⟩
      · cases q
    · cases q; exact ⟨[], rfl⟩
theorem pTer_suf {S} (h : SufP S) : SufP (pTer S) := by
  intro d s e r q
  unfold pTer at q
  split at q
  · rename_i f r2 hf
    obtain ⟨p, rfl⟩ := pTerL_suf h d _ _ _ _ _ q
    obtain ⟨p2, hp, rfl⟩ := pFac_suf h _ _ _ _ hf
    exact ⟨p2 ++ p, by simp [hp], by simp⟩
  · cases q
theorem pSumL_suf {S} (h : SufP S) (d : Nat) : ∀ k e s e' r, pSumL S d k e s = some (e', r) → ∃ p, s = p ++ r := by
  intro k
  induction k with
  | zero =>
    intro e s e' r q
    unfold pSumL at q
    split at q
    · split at q
      · cases q
      · cases q; exact ⟨[], rfl⟩
    · cases q; exact ⟨[], rfl⟩
  | succ k ih =>
    intro e s e' r q
    unfold pSumL at q
    split at q
    · split at q
      · split at q
        · rename_i c r1 _ _ f r2 hf
          obtain ⟨p, rfl⟩ := ih _ _ _ _ q
          obtain ⟨p2, _, rfl⟩ := pTer_suf h _ _ _ _ hf
          exact ⟨c :: (p2 ++ p), by simp⟩
        · cases q
      · cases q; exact ⟨[], rfl⟩
    · cases q; exact ⟨[], rfl⟩
theorem pSum_suf : ∀ n, SufP (pSum n)
  | 0 => fun _ _ _ _ q => by cases q
  | n + 1 => by
    intro d s e r q
    unfold pSum at q
    split at q
    · rename_i f r2 hf
      obtain ⟨p, rfl⟩ := pSumL_suf (pSum_suf n) d _ _ _ _ _ q
      obtain ⟨p2, hp, rfl⟩ := pTer_suf (pSum_suf n) _ _ _ _ hf
      exact ⟨p2 ++ p, by simp [hp], by simp⟩
    · cases q
end My
set_option exponentiation.threshold 10000
namespace My
open PySem L2 Z
def numK (n : Nat) : Bool := (match PySem.intText? (sN (n : Int)) with
    | some m => decide (m = (n : Int))
    | none => false) && decide ((sN (n : Int)).length ≤ 640) && decide (numL (sN (n : Int)).cps.toList = n)
theorem numK_run : ∀ n ∈ List.range 1000, numK n = true := by decide +kernel
theorem int_plain {l : List Nat} (h : plainB l = true) : dIntF [tC l] = some (tN (numL l)) := by
  obtain ⟨n, hn, rfl⟩ := plain_num h
  have := numK_run n (List.mem_range.mpr hn)
  unfold numK at this
  simp only [Bool.and_eq_true, decide_eq_true_eq] at this
  obtain ⟨⟨h1, h2⟩, h3⟩ := this
  rw [h3]
  have e : tC (sN (n : Int)).cps.toList = .v (.str (sN (n : Int))) := by
    unfold tC
    rw [Array.toArray_toList]
  rw [e]
  unfold dIntF
  cases hq : PySem.intText? (sN (n : Int)) with
  | none => rw [hq] at h1; cases h1
  | some m =>
    rw [hq] at h1
    have : m = (n : Int) := of_decide_eq_true h1
    subst this
    simp only [hq, if_pos h2]
end My
set_option exponentiation.threshold 10000
namespace My
open PySem L2 Z
/-! ### the cursor reads what the plain reading reads -/
theorem ofS_one : Str.ofString "(" = ⟨#[40]⟩ ∧ Str.ofString ")" = ⟨#[41]⟩ ∧ Str.ofString "*" = ⟨#[42]⟩ := by decide +kernel
theorem fig_in (c : Nat) : decide (c ∈ (Str.ofString "0123456789").cps.toList) = dig c := by
  have e : (Str.ofString "0123456789").cps.toList = [48, 49, 50, 51, 52, 53, 54, 55, 56, 57] := by decide +kernel
  rw [e]
  unfold dig
  simp only [List.mem_cons, List.not_mem_nil, or_false]
  exact decide_eq_decide.mpr (by omega)
theorem let_in (c : Nat) : decide (c ∈ (Str.ofString "abcdefghijklmnopqrstuvwxyz").cps.toList) = lett c := by
  have e : (Str.ofString "abcdefghijklmnopqrstuvwxyz").cps.toList = [97, 98, 99, 100, 101, 102, 103, 104, 105, 106, 107, 108, 109, 110, 111, 112, 113, 114, 115, 116, 117, 118, 119, 120, 121, 122] := by decide +kernel
  rw [e]
  unfold lett
  simp only [List.mem_cons, List.not_mem_nil, or_false]
  exact decide_eq_decide.mpr (by omega)
section
variable (w : List Nat) (hw : w.length ≤ 10000) (hasc : ∀ c ∈ w, c < 128) {S : Nat → List Nat → Option (Ex × List Nat)} {R : List D → Option (D × DS)} (hS : SufP S)
  (HS : ∀ (d a : Nat) (e : Ex) (r : List Nat), a ≤ w.length → S d (w.drop a) = some (e, r) → R [cur w (a : Int) (d : Int)] = some (encX e, [some (cur w ((w.length - r.length : Nat) : Int) (d : Int))]))
include hw hasc hS HS
omit hw hasc hS HS in
theorem drop_len {a : Nat} {p r : List Nat} (ha : a ≤ w.length) (h : w.drop a = p ++ r) : w.length - r.length = a + p.length ∧ w.drop (a + p.length) = r := by
  have h1 := congrArg List.length h
  rw [List.length_drop, List.length_append] at h1
  refine ⟨by omega, ?_⟩
  rw [← List.drop_drop, h, List.drop_left]
theorem br_ok (d a : Nat) (e : Ex) (r : List Nat) (ha : a < w.length) (h : pBr S d (w.drop (a + 1)) = some (e, r)) : F_Cursor_bracket_told R [cur w (a : Int) (d : Int)] = some (encX e, [some (cur w ((w.length - r.length : Nat) : Int) (d : Int))]) := by
  unfold pBr at h
  split at h
  · cases h
  rename_i hd
  split at h
  case h_2 => cases h
  rename_i e' r' hs
  cases h
  have e1 := HS (d + 1) (a + 1) _ _ (by omega) hs
  obtain ⟨p, hp, hdr⟩ := hS _ _ _ _ hs
  obtain ⟨h1, h2⟩ := drop_len w (a := a + 1) (by omega) hdr
  have h3 : w.length - r.length = w.length - (41 :: r).length + 1 := by
    have := congrArg List.length hdr
    simp at this ⊢
    omega
  obtain ⟨b, hb⟩ : ∃ b, w.length - (41 :: r).length = b := ⟨_, rfl⟩
  rw [hb] at e1 h1 h3
  have hbl : b < w.length := by
    have := congrArg List.length h2
    rw [← h1] at this
    simp at this; omega
  have hbc : hereC w b = [41] := by
    unfold hereC; rw [h1, h2]; rfl
  have eh := here_ok w hw b ((d : Int) + 1)
  rw [hbc] at eh
  have hcx := clean_X e
  have hc1 := @clean_C1 [41]
  have ene := one_ne ofS_one.2.1 [41]
  rw [h3]
  rw [show ((a + 1 : Nat) : Int) = (a : Int) + 1 by omega, show ((d + 1 : Nat) : Int) = (d : Int) + 1 by omega] at e1
  rw [show ((b + 1 : Nat) : Int) = (b : Int) + 1 by omega]
  unfold cur at e1 eh ⊢
  apply ok_is
  simp [ok_some, ok_none, br_true, br_false, req_true, req_false, okFz_b, dAdd_lst, dAdd_tp, take_nil, take_ex, take_bo, put_nil, put_bo, put_ex, outs, fxOf, ofStr_inj, dAdd_int, dSub_eq, clean, cleans, isN, dDictD_1, itemsS_1, dJoin_1, dStrF_1, dAdd_str, mPairs_nil, mPairs_cons, dMin2_1, dMax2_1, dAbs_1, dIntF_1, dIntF_2, isDic_d, isDic_v, isDic_t, isDic_l, dKey_i, dKey_s, dKx_i, dKx_s, dKin_i, dKin_s, getD_nil, getD_cons, hasK_nil, hasK_cons, putD_eq, mergeD_nil, mergeD_cons, dInF, dFdiv_eq, dMod_eq, dMul_r, dMul_l, dPow_eq, dShr_eq, dLt_eq, dLe_eq, dGt_eq, dGe_eq, dEq_int, dNe_int, dEq_bl, dNe_bl, dEq_str, dNe_str, atI_z, atI_lit, atI_n, ixN_lit, ixN_n, fz, fzs, fzO, wipeD, dIx_l, dIx_t, gNl_1, csK_1, gCs_1, gTu_1, itemsL_1, itemsT_1, mRng_1, mRng_2, dTup_1, dLst_1, setSlot_1, setK_1, gNm_1, dLen_l, dLen_t, dTuple_l, dTuple_t, dList_l, dList_t, oNo_1, oK_1, slK_1, slK1_1, slK2_1, dCut_l, dCut_t, isi_bool_bool, isi_bool_int, isi_bool_str, isi_bool_tuple, isi_bool_list, isi_int_bool, isi_int_int, isi_int_str, isi_int_tuple, isi_int_list, isi_str_bool, isi_str_int, isi_str_str, isi_str_tuple, isi_str_list, isi_tuple_bool, isi_tuple_int, isi_tuple_str, isi_tuple_tuple, isi_tuple_list, isi_list_bool, isi_list_int, isi_list_str, isi_list_tuple, isi_list_list, isi_nonetype_bool, isi_nonetype_int, isi_nonetype_str, isi_nonetype_tuple, isi_nonetype_list, isi_T, F_Cursor_bracket_told, m_Cursor_bracket_told, mAugV, mC_e, c_DEEPEST]
  refine br_neg (by omega) ?_
  simp [ok_some, ok_none, br_true, br_false, req_true, req_false, okFz_b, dAdd_lst, dAdd_tp, take_nil, take_ex, take_bo, put_nil, put_bo, put_ex, outs, fxOf, ofStr_inj, dAdd_int, dSub_eq, clean, cleans, isN, dDictD_1, itemsS_1, dJoin_1, dStrF_1, dAdd_str, mPairs_nil, mPairs_cons, dMin2_1, dMax2_1, dAbs_1, dIntF_1, dIntF_2, isDic_d, isDic_v, isDic_t, isDic_l, dKey_i, dKey_s, dKx_i, dKx_s, dKin_i, dKin_s, getD_nil, getD_cons, hasK_nil, hasK_cons, putD_eq, mergeD_nil, mergeD_cons, dInF, dFdiv_eq, dMod_eq, dMul_r, dMul_l, dPow_eq, dShr_eq, dLt_eq, dLe_eq, dGt_eq, dGe_eq, dEq_int, dNe_int, dEq_bl, dNe_bl, dEq_str, dNe_str, atI_z, atI_lit, atI_n, ixN_lit, ixN_n, fz, fzs, fzO, wipeD, dIx_l, dIx_t, gNl_1, csK_1, gCs_1, gTu_1, itemsL_1, itemsT_1, mRng_1, mRng_2, dTup_1, dLst_1, setSlot_1, setK_1, gNm_1, dLen_l, dLen_t, dTuple_l, dTuple_t, dList_l, dList_t, oNo_1, oK_1, slK_1, slK1_1, slK2_1, dCut_l, dCut_t, isi_bool_bool, isi_bool_int, isi_bool_str, isi_bool_tuple, isi_bool_list, isi_int_bool, isi_int_int, isi_int_str, isi_int_tuple, isi_int_list, isi_str_bool, isi_str_int, isi_str_str, isi_str_tuple, isi_str_list, isi_tuple_bool, isi_tuple_int, isi_tuple_str, isi_tuple_tuple, isi_tuple_list, isi_list_bool, isi_list_int, isi_list_str, isi_list_tuple, isi_list_list, isi_nonetype_bool, isi_nonetype_int, isi_nonetype_str, isi_nonetype_tuple, isi_nonetype_list, isi_T, mAugV, mC_e, e1, eh, ene, hcx, hc1]
  done
theorem fac_ok (d a : Nat) (e : Ex) (r : List Nat) (ha : a ≤ w.length) (h : pFac S d (w.drop a) = some (e, r)) : F_Cursor_factor_told R [cur w (a : Int) (d : Int)] = some (encX e, [some (cur w ((w.length - r.length : Nat) : Int) (d : Int))]) := by
  have eh := here_ok w hw a (d : Int)
  have h0 := h
  unfold pFac at h
  split at h
  · rename_i s1 r1 hs
    have hlt : a < w.length := by
      have := congrArg List.length hs
      simp at this; omega
    have hbc : hereC w a = [40] := by unfold hereC; rw [hs]; rfl
    have hd1 : w.drop (a + 1) = r1 := by rw [← List.drop_drop, hs]; rfl
    rw [← hd1] at h
    have eb := br_ok w hw hasc hS HS d a e r hlt h
    rw [hbc] at eh
    have ene := one_eq ofS_one.1 [40]
    have hc1 := @clean_C1 [40]
    unfold cur at eh eb ⊢
    apply ok_is
    simp [ok_some, ok_none, br_true, br_false, req_true, req_false, okFz_b, dAdd_lst, dAdd_tp, take_nil, take_ex, take_bo, put_nil, put_bo, put_ex, outs, fxOf, ofStr_inj, dAdd_int, dSub_eq, clean, cleans, isN, dDictD_1, itemsS_1, dJoin_1, dStrF_1, dAdd_str, mPairs_nil, mPairs_cons, dMin2_1, dMax2_1, dAbs_1, dIntF_1, dIntF_2, isDic_d, isDic_v, isDic_t, isDic_l, dKey_i, dKey_s, dKx_i, dKx_s, dKin_i, dKin_s, getD_nil, getD_cons, hasK_nil, hasK_cons, putD_eq, mergeD_nil, mergeD_cons, dInF, dFdiv_eq, dMod_eq, dMul_r, dMul_l, dPow_eq, dShr_eq, dLt_eq, dLe_eq, dGt_eq, dGe_eq, dEq_int, dNe_int, dEq_bl, dNe_bl, dEq_str, dNe_str, atI_z, atI_lit, atI_n, ixN_lit, ixN_n, fz, fzs, fzO, wipeD, dIx_l, dIx_t, gNl_1, csK_1, gCs_1, gTu_1, itemsL_1, itemsT_1, mRng_1, mRng_2, dTup_1, dLst_1, setSlot_1, setK_1, gNm_1, dLen_l, dLen_t, dTuple_l, dTuple_t, dList_l, dList_t, oNo_1, oK_1, slK_1, slK1_1, slK2_1, dCut_l, dCut_t, isi_bool_bool, isi_bool_int, isi_bool_str, isi_bool_tuple, isi_bool_list, isi_int_bool, isi_int_int, isi_int_str, isi_int_tuple, isi_int_list, isi_str_bool, isi_str_int, isi_str_str, isi_str_tuple, isi_str_list, isi_tuple_bool, isi_tuple_int, isi_tuple_str, isi_tuple_tuple, isi_tuple_list, isi_list_bool, isi_list_int, isi_list_str, isi_list_tuple, isi_list_list, isi_nonetype_bool, isi_nonetype_int, isi_nonetype_str, isi_nonetype_tuple, isi_nonetype_list, isi_T, F_Cursor_factor_told, m_Cursor_factor_told, eh, ene, hc1, eb]
    done
  · rename_i hno
    have hh : decide (hereC w a = [40]) = false := by
      refine decide_eq_false fun z => ?_
      unfold hereC at z
      cases hq : w.drop a with
      | nil => rw [hq] at z; cases z
      | cons c l =>
        rw [hq] at z
        simp at z
        subst z
        exact hno l hq
    have ene := one_eq ofS_one.1 (hereC w a)
    rw [hh] at ene
    have hc1 := @clean_C1 (hereC w a)
    have htk := taken_ok w hw a ha (d : Int) (Str.ofString "0123456789") dig (fun c => fig_in c)
    have hfa : ∀ c ∈ (w.drop a).takeWhile dig, c < 128 := fun c hc => hasc c (List.mem_of_mem_drop (List.takeWhile_subset _ hc))
    have hfl : ((w.drop a).takeWhile dig).length ≤ w.length - a := by
      have := (List.takeWhile_prefix dig (l := w.drop a)).length_le
      simpa using this
    have hpn := plainN_ok ⟨((w.drop a).takeWhile dig).toArray⟩ hfa (by rw [len_l]; omega)
    have hdw : w.drop (a + ((w.drop a).takeWhile dig).length) = (w.drop a).dropWhile dig := by
      have h1 := List.takeWhile_append_dropWhile (p := dig) (l := w.drop a)
      exact (drop_len w ha h1.symm).2
    have hrl : w.length - ((w.drop a).dropWhile dig).length = a + ((w.drop a).takeWhile dig).length := by
      have h1 := List.takeWhile_append_dropWhile (p := dig) (l := w.drop a)
      exact (drop_len w ha h1.symm).1
    obtain ⟨F, hF⟩ : ∃ F, (w.drop a).takeWhile dig = F := ⟨_, rfl⟩
    obtain ⟨Rr, hR⟩ : ∃ Rr, (w.drop a).dropWhile dig = Rr := ⟨_, rfl⟩
    rw [hF] at h htk hfa hpn hdw hrl hfl
    rw [hR] at h hdw hrl
    have hcF := @clean_C1 F
    have hfF := @fz_C1 F
    have hpn : F_is_plain_number [tC F] = some (.v (.bl (plainB F)), [some (tC F)]) := hpn
    unfold cur at eh htk ⊢
    apply ok_is
    by_cases hp : plainB F = true
    · rw [if_pos hp] at h
      cases h
      rw [hp] at hpn
      have hin := int_plain hp
      rw [hrl]
      simp [ok_some, ok_none, br_true, br_false, req_true, req_false, okFz_b, dAdd_lst, dAdd_tp, take_nil, take_ex, take_bo, put_nil, put_bo, put_ex, outs, fxOf, ofStr_inj, dAdd_int, dSub_eq, clean, cleans, isN, dDictD_1, itemsS_1, dJoin_1, dStrF_1, dAdd_str, mPairs_nil, mPairs_cons, dMin2_1, dMax2_1, dAbs_1, dIntF_1, dIntF_2, isDic_d, isDic_v, isDic_t, isDic_l, dKey_i, dKey_s, dKx_i, dKx_s, dKin_i, dKin_s, getD_nil, getD_cons, hasK_nil, hasK_cons, putD_eq, mergeD_nil, mergeD_cons, dInF, dFdiv_eq, dMod_eq, dMul_r, dMul_l, dPow_eq, dShr_eq, dLt_eq, dLe_eq, dGt_eq, dGe_eq, dEq_int, dNe_int, dEq_bl, dNe_bl, dEq_str, dNe_str, atI_z, atI_lit, atI_n, ixN_lit, ixN_n, fz, fzs, fzO, wipeD, dIx_l, dIx_t, gNl_1, csK_1, gCs_1, gTu_1, itemsL_1, itemsT_1, mRng_1, mRng_2, dTup_1, dLst_1, setSlot_1, setK_1, gNm_1, dLen_l, dLen_t, dTuple_l, dTuple_t, dList_l, dList_t, oNo_1, oK_1, slK_1, slK1_1, slK2_1, dCut_l, dCut_t, isi_bool_bool, isi_bool_int, isi_bool_str, isi_bool_tuple, isi_bool_list, isi_int_bool, isi_int_int, isi_int_str, isi_int_tuple, isi_int_list, isi_str_bool, isi_str_int, isi_str_str, isi_str_tuple, isi_str_list, isi_tuple_bool, isi_tuple_int, isi_tuple_str, isi_tuple_tuple, isi_tuple_list, isi_list_bool, isi_list_int, isi_list_str, isi_list_tuple, isi_list_list, isi_nonetype_bool, isi_nonetype_int, isi_nonetype_str, isi_nonetype_tuple, isi_nonetype_list, isi_T, F_Cursor_factor_told, m_Cursor_factor_told, eh, ene, hc1, c_FIGURES, htk, hpn, hin, hcF, hfF]
      exact rfl
    · rw [if_neg hp] at h
      rw [Bool.not_eq_true] at hp
      rw [hp] at hpn
      split at h
      case isFalse => cases h
      rename_i hq
      obtain ⟨hF0, hnm⟩ := hq
      cases h
      subst hF0
      simp only [List.length_nil, Nat.add_zero] at htk hdw hrl
      have htk2 := taken_ok w hw a ha (d : Int) (Str.ofString "abcdefghijklmnopqrstuvwxyz") lett (fun c => let_in c)
      unfold cur at htk2
      rw [hdw] at htk2
      have hLa : ∀ c ∈ Rr.takeWhile lett, c < 128 := fun c hc => hasc c (List.mem_of_mem_drop (by rw [hdw]; exact List.takeWhile_subset _ hc))
      have hLl : (Rr.takeWhile lett).length ≤ 10000 := by
        have := (List.takeWhile_prefix lett (l := Rr)).length_le
        have h2 := congrArg List.length hdw
        rw [List.length_drop] at h2
        omega
      have hnm2 := isname_ok (Rr.takeWhile lett) hLa hLl
      rw [hnm] at hnm2
      have h1 := List.takeWhile_append_dropWhile (p := lett) (l := Rr)
      obtain ⟨hr1, hr2⟩ := drop_len w ha (hdw.trans h1.symm)
      obtain ⟨L, hL⟩ : ∃ L, Rr.takeWhile lett = L := ⟨_, rfl⟩
      rw [hL] at htk2 hnm2 hr1 ⊢
      have hcL := @clean_C1 L
      have hfL := @fz_C1 L
      have hn0 := hr_nil
      rw [hr1]
      simp [ok_some, ok_none, br_true, br_false, req_true, req_false, okFz_b, dAdd_lst, dAdd_tp, take_nil, take_ex, take_bo, put_nil, put_bo, put_ex, outs, fxOf, ofStr_inj, dAdd_int, dSub_eq, clean, cleans, isN, dDictD_1, itemsS_1, dJoin_1, dStrF_1, dAdd_str, mPairs_nil, mPairs_cons, dMin2_1, dMax2_1, dAbs_1, dIntF_1, dIntF_2, isDic_d, isDic_v, isDic_t, isDic_l, dKey_i, dKey_s, dKx_i, dKx_s, dKin_i, dKin_s, getD_nil, getD_cons, hasK_nil, hasK_cons, putD_eq, mergeD_nil, mergeD_cons, dInF, dFdiv_eq, dMod_eq, dMul_r, dMul_l, dPow_eq, dShr_eq, dLt_eq, dLe_eq, dGt_eq, dGe_eq, dEq_int, dNe_int, dEq_bl, dNe_bl, dEq_str, dNe_str, atI_z, atI_lit, atI_n, ixN_lit, ixN_n, fz, fzs, fzO, wipeD, dIx_l, dIx_t, gNl_1, csK_1, gCs_1, gTu_1, itemsL_1, itemsT_1, mRng_1, mRng_2, dTup_1, dLst_1, setSlot_1, setK_1, gNm_1, dLen_l, dLen_t, dTuple_l, dTuple_t, dList_l, dList_t, oNo_1, oK_1, slK_1, slK1_1, slK2_1, dCut_l, dCut_t, isi_bool_bool, isi_bool_int, isi_bool_str, isi_bool_tuple, isi_bool_list, isi_int_bool, isi_int_int, isi_int_str, isi_int_tuple, isi_int_list, isi_str_bool, isi_str_int, isi_str_str, isi_str_tuple, isi_str_list, isi_tuple_bool, isi_tuple_int, isi_tuple_str, isi_tuple_tuple, isi_tuple_list, isi_list_bool, isi_list_int, isi_list_str, isi_list_tuple, isi_list_list, isi_nonetype_bool, isi_nonetype_int, isi_nonetype_str, isi_nonetype_tuple, isi_nonetype_list, isi_T, F_Cursor_factor_told, m_Cursor_factor_told, eh, ene, hc1, c_FIGURES, c_LETTERS, htk, hpn, hcF, hfF, htk2, hnm2, hcL, hfL, hn0]
      exact rfl
end
end My
set_option exponentiation.threshold 10000
namespace My
open PySem L2 Z
theorem pm_in (c : Nat) : decide (c ∈ (Str.ofString "+-").cps.toList) = isPM c := by
  have e : (Str.ofString "+-").cps.toList = [43, 45] := by decide +kernel
  rw [e]
  unfold isPM
  simp only [List.mem_cons, List.not_mem_nil, or_false]
section
variable (w : List Nat) (hw : w.length ≤ 10000) (hasc : ∀ c ∈ w, c < 128) {S : Nat → List Nat → Option (Ex × List Nat)} {R : List D → Option (D × DS)} (hS : SufP S)
  (HS : ∀ (d a : Nat) (e : Ex) (r : List Nat), a ≤ w.length → S d (w.drop a) = some (e, r) → R [cur w (a : Int) (d : Int)] = some (encX e, [some (cur w ((w.length - r.length : Nat) : Int) (d : Int))]))
include hw hasc hS HS
theorem ter_ok (d a : Nat) (e : Ex) (r : List Nat) (ha : a ≤ w.length) (h : pTer S d (w.drop a) = some (e, r)) : F_Cursor_term_told R [cur w (a : Int) (d : Int)] = some (encX e, [some (cur w ((w.length - r.length : Nat) : Int) (d : Int))]) := by
  unfold pTer at h
  split at h
  case h_2 => cases h
  rename_i f r1 hf
  have e1 := fac_ok w hw hasc hS HS d a f r1 ha hf
  obtain ⟨p, hp, hdr⟩ := pFac_suf hS _ _ _ _ hf
  obtain ⟨hb1, hb2⟩ := drop_len w ha hdr
  obtain ⟨b, hb⟩ : ∃ b, w.length - r1.length = b := ⟨_, rfl⟩
  have hbl : b ≤ w.length := by omega
  rw [hb] at e1 hb1
  rw [← hb1] at hb2
  have hcf := clean_X f
  unfold cur at e1 ⊢
  apply ok_is
  simp [ok_some, ok_none, br_true, br_false, req_true, req_false, okFz_b, dAdd_lst, dAdd_tp, take_nil, take_ex, take_bo, put_nil, put_bo, put_ex, outs, fxOf, ofStr_inj, dAdd_int, dSub_eq, clean, cleans, isN, dDictD_1, itemsS_1, dJoin_1, dStrF_1, dAdd_str, mPairs_nil, mPairs_cons, dMin2_1, dMax2_1, dAbs_1, dIntF_1, dIntF_2, isDic_d, isDic_v, isDic_t, isDic_l, dKey_i, dKey_s, dKx_i, dKx_s, dKin_i, dKin_s, getD_nil, getD_cons, hasK_nil, hasK_cons, putD_eq, mergeD_nil, mergeD_cons, dInF, dFdiv_eq, dMod_eq, dMul_r, dMul_l, dPow_eq, dShr_eq, dLt_eq, dLe_eq, dGt_eq, dGe_eq, dEq_int, dNe_int, dEq_bl, dNe_bl, dEq_str, dNe_str, atI_z, atI_lit, atI_n, ixN_lit, ixN_n, fz, fzs, fzO, wipeD, dIx_l, dIx_t, gNl_1, csK_1, gCs_1, gTu_1, itemsL_1, itemsT_1, mRng_1, mRng_2, dTup_1, dLst_1, setSlot_1, setK_1, gNm_1, dLen_l, dLen_t, dTuple_l, dTuple_t, dList_l, dList_t, oNo_1, oK_1, slK_1, slK1_1, slK2_1, dCut_l, dCut_t, isi_bool_bool, isi_bool_int, isi_bool_str, isi_bool_tuple, isi_bool_list, isi_int_bool, isi_int_int, isi_int_str, isi_int_tuple, isi_int_list, isi_str_bool, isi_str_int, isi_str_str, isi_str_tuple, isi_str_list, isi_tuple_bool, isi_tuple_int, isi_tuple_str, isi_tuple_tuple, isi_tuple_list, isi_list_bool, isi_list_int, isi_list_str, isi_list_tuple, isi_list_list, isi_nonetype_bool, isi_nonetype_int, isi_nonetype_str, isi_nonetype_tuple, isi_nonetype_list, isi_T, F_Cursor_term_told, m_Cursor_term_told, e1, hcf]
  refine ok_While (fun v ds => ∃ (b : Nat) (f : Ex), ds = [some (.ins .own "Cursor" ["word", "at", "deep"] [tC w, tI (b : Int), tI (d : Int)]), some (encX f)] ∧ b ≤ w.length ∧ pTerL S d v f (w.drop b) = some (e, r)) r1.length ⟨b, f, rfl, hbl, by rw [hb2]; exact h⟩ (by have := congrArg List.length hdr; simp at this; omega) ?_
  clear h e1 hcf hb hb1 hb2 hbl hdr hp hf
  rintro v _ ⟨b, f, rfl, hbl, hv⟩
  have eh := here_ok w hw b (d : Int)
  have ene := one_eq ofS_one.2.2 (hereC w b)
  have hc1 := @clean_C1 (hereC w b)
  have hcf := clean_X f
  unfold cur at eh
  by_cases hx : hereC w b = [42]
  · rw [decide_eq_true hx] at ene
    have hlt : b < w.length := by
      rcases Nat.lt_or_ge b w.length with q | q
      · exact q
      · rw [hereC_nil q] at hx; cases hx
    have hd1 : w.drop b = 42 :: w.drop (b + 1) := by
      have h1 := List.drop_eq_getElem_cons hlt
      rw [hereC_cons hlt] at hx
      rw [h1]
      congr 1
      simpa using hx
    rw [hd1] at hv
    cases v with
    | zero => unfold pTerL at hv; cases hv
    | succ k =>
      unfold pTerL at hv
      simp only at hv
      split at hv
      case h_2 => cases hv
      rename_i g r2 hg
      have e2 := fac_ok w hw hasc hS HS d (b + 1) g r2 (by omega) hg
      obtain ⟨p2, _, hdr2⟩ := pFac_suf hS _ _ _ _ hg
      obtain ⟨hq1, hq2⟩ := drop_len w (a := b + 1) (by omega) hdr2
      rw [show ((b + 1 : Nat) : Int) = (b : Int) + 1 by omega] at e2
      unfold cur at e2
      have hcg := clean_X g
      simp [ok_some, ok_none, br_true, br_false, req_true, req_false, okFz_b, dAdd_lst, dAdd_tp, take_nil, take_ex, take_bo, put_nil, put_bo, put_ex, outs, fxOf, ofStr_inj, dAdd_int, dSub_eq, clean, cleans, isN, dDictD_1, itemsS_1, dJoin_1, dStrF_1, dAdd_str, mPairs_nil, mPairs_cons, dMin2_1, dMax2_1, dAbs_1, dIntF_1, dIntF_2, isDic_d, isDic_v, isDic_t, isDic_l, dKey_i, dKey_s, dKx_i, dKx_s, dKin_i, dKin_s, getD_nil, getD_cons, hasK_nil, hasK_cons, putD_eq, mergeD_nil, mergeD_cons, dInF, dFdiv_eq, dMod_eq, dMul_r, dMul_l, dPow_eq, dShr_eq, dLt_eq, dLe_eq, dGt_eq, dGe_eq, dEq_int, dNe_int, dEq_bl, dNe_bl, dEq_str, dNe_str, atI_z, atI_lit, atI_n, ixN_lit, ixN_n, fz, fzs, fzO, wipeD, dIx_l, dIx_t, gNl_1, csK_1, gCs_1, gTu_1, itemsL_1, itemsT_1, mRng_1, mRng_2, dTup_1, dLst_1, setSlot_1, setK_1, gNm_1, dLen_l, dLen_t, dTuple_l, dTuple_t, dList_l, dList_t, oNo_1, oK_1, slK_1, slK1_1, slK2_1, dCut_l, dCut_t, isi_bool_bool, isi_bool_int, isi_bool_str, isi_bool_tuple, isi_bool_list, isi_int_bool, isi_int_int, isi_int_str, isi_int_tuple, isi_int_list, isi_str_bool, isi_str_int, isi_str_str, isi_str_tuple, isi_str_list, isi_tuple_bool, isi_tuple_int, isi_tuple_str, isi_tuple_tuple, isi_tuple_list, isi_list_bool, isi_list_int, isi_list_str, isi_list_tuple, isi_list_list, isi_nonetype_bool, isi_nonetype_int, isi_nonetype_str, isi_nonetype_tuple, isi_nonetype_list, isi_T, eh, ene, hc1, mAugV, mC_e, hcf, e2, hcg]
      refine Leaf.mk ⟨k, Nat.lt_succ_self k, w.length - r2.length, .op 42 f g, ?_, by omega, ?_⟩
      · have h42 : D.v (V.str (Str.ofString "*")) = tC [42] := by rw [ofS_one.2.2]; rfl
        rw [h42]; rfl
      · rw [hq1, hq2]; exact hv
  · rw [decide_eq_false hx] at ene
    have hend : pTerL S d v f (w.drop b) = some (f, w.drop b) := by
      unfold hereC at hx
      cases v with
      | zero =>
        unfold pTerL
        rw [if_neg]
        intro q
        cases hq : w.drop b with
        | nil => rw [hq] at q; cases q
        | cons c l => rw [hq] at q hx; simp at q hx; exact hx q
      | succ k =>
        unfold pTerL
        cases hq : w.drop b with
        | nil => rfl
        | cons c l =>
          rw [hq] at hx
          have : c ≠ 42 := by simpa using hx
          split
          · rename_i q; cases q; exact absurd rfl this
          · rfl
    rw [hend] at hv
    cases hv
    simp [ok_some, ok_none, br_true, br_false, req_true, req_false, okFz_b, dAdd_lst, dAdd_tp, take_nil, take_ex, take_bo, put_nil, put_bo, put_ex, outs, fxOf, ofStr_inj, dAdd_int, dSub_eq, clean, cleans, isN, dDictD_1, itemsS_1, dJoin_1, dStrF_1, dAdd_str, mPairs_nil, mPairs_cons, dMin2_1, dMax2_1, dAbs_1, dIntF_1, dIntF_2, isDic_d, isDic_v, isDic_t, isDic_l, dKey_i, dKey_s, dKx_i, dKx_s, dKin_i, dKin_s, getD_nil, getD_cons, hasK_nil, hasK_cons, putD_eq, mergeD_nil, mergeD_cons, dInF, dFdiv_eq, dMod_eq, dMul_r, dMul_l, dPow_eq, dShr_eq, dLt_eq, dLe_eq, dGt_eq, dGe_eq, dEq_int, dNe_int, dEq_bl, dNe_bl, dEq_str, dNe_str, atI_z, atI_lit, atI_n, ixN_lit, ixN_n, fz, fzs, fzO, wipeD, dIx_l, dIx_t, gNl_1, csK_1, gCs_1, gTu_1, itemsL_1, itemsT_1, mRng_1, mRng_2, dTup_1, dLst_1, setSlot_1, setK_1, gNm_1, dLen_l, dLen_t, dTuple_l, dTuple_t, dList_l, dList_t, oNo_1, oK_1, slK_1, slK1_1, slK2_1, dCut_l, dCut_t, isi_bool_bool, isi_bool_int, isi_bool_str, isi_bool_tuple, isi_bool_list, isi_int_bool, isi_int_int, isi_int_str, isi_int_tuple, isi_int_list, isi_str_bool, isi_str_int, isi_str_str, isi_str_tuple, isi_str_list, isi_tuple_bool, isi_tuple_int, isi_tuple_str, isi_tuple_tuple, isi_tuple_list, isi_list_bool, isi_list_int, isi_list_str, isi_list_tuple, isi_list_list, isi_nonetype_bool, isi_nonetype_int, isi_nonetype_str, isi_nonetype_tuple, isi_nonetype_list, isi_T, eh, ene, hc1, hcf]
    rw [show w.length - (w.length - b) = b by omega]
theorem sum_ok1 (d a : Nat) (e f : Ex) (r r1 : List Nat) (ha : a ≤ w.length) (hf : pTer S d (w.drop a) = some (f, r1)) (h : pSumL S d r1.length f r1 = some (e, r)) : fnM 1 3 (fxOf [0]) (m_Cursor_sum_told R) [cur w (a : Int) (d : Int)] = some (encX e, [some (cur w ((w.length - r.length : Nat) : Int) (d : Int))]) := by
  have e1 := ter_ok w hw hasc hS HS d a f r1 ha hf
  obtain ⟨p, hp, hdr⟩ := pTer_suf hS _ _ _ _ hf
  obtain ⟨hb1, hb2⟩ := drop_len w ha hdr
  obtain ⟨b, hb⟩ : ∃ b, w.length - r1.length = b := ⟨_, rfl⟩
  have hbl : b ≤ w.length := by omega
  rw [hb] at e1 hb1
  rw [← hb1] at hb2
  have hcf := clean_X f
  unfold cur at e1 ⊢
  apply ok_is
  simp [ok_some, ok_none, br_true, br_false, req_true, req_false, okFz_b, dAdd_lst, dAdd_tp, take_nil, take_ex, take_bo, put_nil, put_bo, put_ex, outs, fxOf, ofStr_inj, dAdd_int, dSub_eq, clean, cleans, isN, dDictD_1, itemsS_1, dJoin_1, dStrF_1, dAdd_str, mPairs_nil, mPairs_cons, dMin2_1, dMax2_1, dAbs_1, dIntF_1, dIntF_2, isDic_d, isDic_v, isDic_t, isDic_l, dKey_i, dKey_s, dKx_i, dKx_s, dKin_i, dKin_s, getD_nil, getD_cons, hasK_nil, hasK_cons, putD_eq, mergeD_nil, mergeD_cons, dInF, dFdiv_eq, dMod_eq, dMul_r, dMul_l, dPow_eq, dShr_eq, dLt_eq, dLe_eq, dGt_eq, dGe_eq, dEq_int, dNe_int, dEq_bl, dNe_bl, dEq_str, dNe_str, atI_z, atI_lit, atI_n, ixN_lit, ixN_n, fz, fzs, fzO, wipeD, dIx_l, dIx_t, gNl_1, csK_1, gCs_1, gTu_1, itemsL_1, itemsT_1, mRng_1, mRng_2, dTup_1, dLst_1, setSlot_1, setK_1, gNm_1, dLen_l, dLen_t, dTuple_l, dTuple_t, dList_l, dList_t, oNo_1, oK_1, slK_1, slK1_1, slK2_1, dCut_l, dCut_t, isi_bool_bool, isi_bool_int, isi_bool_str, isi_bool_tuple, isi_bool_list, isi_int_bool, isi_int_int, isi_int_str, isi_int_tuple, isi_int_list, isi_str_bool, isi_str_int, isi_str_str, isi_str_tuple, isi_str_list, isi_tuple_bool, isi_tuple_int, isi_tuple_str, isi_tuple_tuple, isi_tuple_list, isi_list_bool, isi_list_int, isi_list_str, isi_list_tuple, isi_list_list, isi_nonetype_bool, isi_nonetype_int, isi_nonetype_str, isi_nonetype_tuple, isi_nonetype_list, isi_T, m_Cursor_sum_told, e1, hcf]
  refine ok_While (fun v ds => ∃ (b : Nat) (f : Ex) (x2 : Option D), ds = [some (.ins .own "Cursor" ["word", "at", "deep"] [tC w, tI (b : Int), tI (d : Int)]), some (encX f), x2] ∧ b ≤ w.length ∧ pSumL S d v f (w.drop b) = some (e, r)) r1.length ⟨b, f, _, rfl, hbl, by rw [hb2]; exact h⟩ (by have := congrArg List.length hdr; simp at this; omega) ?_
  clear h e1 hcf hb hb1 hb2 hbl hdr hp hf
  rintro v _ ⟨b, f, x2, rfl, hbl, hv⟩
  have eh := here_ok w hw b (d : Int)
  have hcf := clean_X f
  unfold cur at eh
  by_cases hlt : b < w.length
  · have hd1 : w.drop b = w[b] :: w.drop (b + 1) := List.drop_eq_getElem_cons hlt
    rw [hereC_cons hlt] at eh
    have ene := hr_ne w[b] []
    have e3 : dIn (tC [w[b]]) (tS "+-") = some (.v (.bl (isPM w[b]))) := by rw [← pm_in]; rfl
    have hc1 := @clean_C1 [w[b]]
    have hf1 := @fz_C1 [w[b]]
    cases hpm : isPM w[b] with
    | true =>
      rw [hpm] at e3
      rw [hd1] at hv
      cases v with
      | zero => unfold pSumL at hv; simp [hpm] at hv
      | succ k =>
        unfold pSumL at hv
        simp only [if_pos hpm] at hv
        split at hv
        case h_2 => cases hv
        rename_i g r2 hg
        have e2 := ter_ok w hw hasc hS HS d (b + 1) g r2 (by omega) hg
        obtain ⟨p2, _, hdr2⟩ := pTer_suf hS _ _ _ _ hg
        obtain ⟨hq1, hq2⟩ := drop_len w (a := b + 1) (by omega) hdr2
        rw [show ((b + 1 : Nat) : Int) = (b : Int) + 1 by omega] at e2
        unfold cur at e2
        have hcg := clean_X g
        simp [ok_some, ok_none, br_true, br_false, req_true, req_false, okFz_b, dAdd_lst, dAdd_tp, take_nil, take_ex, take_bo, put_nil, put_bo, put_ex, outs, fxOf, ofStr_inj, dAdd_int, dSub_eq, clean, cleans, isN, dDictD_1, itemsS_1, dJoin_1, dStrF_1, dAdd_str, mPairs_nil, mPairs_cons, dMin2_1, dMax2_1, dAbs_1, dIntF_1, dIntF_2, isDic_d, isDic_v, isDic_t, isDic_l, dKey_i, dKey_s, dKx_i, dKx_s, dKin_i, dKin_s, getD_nil, getD_cons, hasK_nil, hasK_cons, putD_eq, mergeD_nil, mergeD_cons, dInF, dFdiv_eq, dMod_eq, dMul_r, dMul_l, dPow_eq, dShr_eq, dLt_eq, dLe_eq, dGt_eq, dGe_eq, dEq_int, dNe_int, dEq_bl, dNe_bl, dEq_str, dNe_str, atI_z, atI_lit, atI_n, ixN_lit, ixN_n, fz, fzs, fzO, wipeD, dIx_l, dIx_t, gNl_1, csK_1, gCs_1, gTu_1, itemsL_1, itemsT_1, mRng_1, mRng_2, dTup_1, dLst_1, setSlot_1, setK_1, gNm_1, dLen_l, dLen_t, dTuple_l, dTuple_t, dList_l, dList_t, oNo_1, oK_1, slK_1, slK1_1, slK2_1, dCut_l, dCut_t, isi_bool_bool, isi_bool_int, isi_bool_str, isi_bool_tuple, isi_bool_list, isi_int_bool, isi_int_int, isi_int_str, isi_int_tuple, isi_int_list, isi_str_bool, isi_str_int, isi_str_str, isi_str_tuple, isi_str_list, isi_tuple_bool, isi_tuple_int, isi_tuple_str, isi_tuple_tuple, isi_tuple_list, isi_list_bool, isi_list_int, isi_list_str, isi_list_tuple, isi_list_list, isi_nonetype_bool, isi_nonetype_int, isi_nonetype_str, isi_nonetype_tuple, isi_nonetype_list, isi_T, eh, ene, e3, hc1, hf1, mAugV, mC_e, hcf, e2, hcg]
        refine Leaf.mk ⟨k, Nat.lt_succ_self k, w.length - r2.length, .op w[b] f g, _, rfl, by omega, ?_⟩
        rw [hq1, hq2]; exact hv
    | false =>
      rw [hpm] at e3
      have hend : pSumL S d v f (w.drop b) = some (f, w.drop b) := by
        rw [hd1]
        cases v <;> (unfold pSumL; simp [hpm])
      rw [hend] at hv
      cases hv
      simp [ok_some, ok_none, br_true, br_false, req_true, req_false, okFz_b, dAdd_lst, dAdd_tp, take_nil, take_ex, take_bo, put_nil, put_bo, put_ex, outs, fxOf, ofStr_inj, dAdd_int, dSub_eq, clean, cleans, isN, dDictD_1, itemsS_1, dJoin_1, dStrF_1, dAdd_str, mPairs_nil, mPairs_cons, dMin2_1, dMax2_1, dAbs_1, dIntF_1, dIntF_2, isDic_d, isDic_v, isDic_t, isDic_l, dKey_i, dKey_s, dKx_i, dKx_s, dKin_i, dKin_s, getD_nil, getD_cons, hasK_nil, hasK_cons, putD_eq, mergeD_nil, mergeD_cons, dInF, dFdiv_eq, dMod_eq, dMul_r, dMul_l, dPow_eq, dShr_eq, dLt_eq, dLe_eq, dGt_eq, dGe_eq, dEq_int, dNe_int, dEq_bl, dNe_bl, dEq_str, dNe_str, atI_z, atI_lit, atI_n, ixN_lit, ixN_n, fz, fzs, fzO, wipeD, dIx_l, dIx_t, gNl_1, csK_1, gCs_1, gTu_1, itemsL_1, itemsT_1, mRng_1, mRng_2, dTup_1, dLst_1, setSlot_1, setK_1, gNm_1, dLen_l, dLen_t, dTuple_l, dTuple_t, dList_l, dList_t, oNo_1, oK_1, slK_1, slK1_1, slK2_1, dCut_l, dCut_t, isi_bool_bool, isi_bool_int, isi_bool_str, isi_bool_tuple, isi_bool_list, isi_int_bool, isi_int_int, isi_int_str, isi_int_tuple, isi_int_list, isi_str_bool, isi_str_int, isi_str_str, isi_str_tuple, isi_str_list, isi_tuple_bool, isi_tuple_int, isi_tuple_str, isi_tuple_tuple, isi_tuple_list, isi_list_bool, isi_list_int, isi_list_str, isi_list_tuple, isi_list_list, isi_nonetype_bool, isi_nonetype_int, isi_nonetype_str, isi_nonetype_tuple, isi_nonetype_list, isi_T, eh, ene, e3, hc1, hcf]
      rw [show w.length - (w.length - b) = b by omega]
  · rw [hereC_nil (by omega)] at eh
    have hn0 := hr_nil
    have hc1 := @clean_C1 []
    have hend : pSumL S d v f (w.drop b) = some (f, w.drop b) := by
      rw [List.drop_of_length_le (by omega)]
      cases v <;> (unfold pSumL; rfl)
    rw [hend] at hv
    cases hv
    simp [ok_some, ok_none, br_true, br_false, req_true, req_false, okFz_b, dAdd_lst, dAdd_tp, take_nil, take_ex, take_bo, put_nil, put_bo, put_ex, outs, fxOf, ofStr_inj, dAdd_int, dSub_eq, clean, cleans, isN, dDictD_1, itemsS_1, dJoin_1, dStrF_1, dAdd_str, mPairs_nil, mPairs_cons, dMin2_1, dMax2_1, dAbs_1, dIntF_1, dIntF_2, isDic_d, isDic_v, isDic_t, isDic_l, dKey_i, dKey_s, dKx_i, dKx_s, dKin_i, dKin_s, getD_nil, getD_cons, hasK_nil, hasK_cons, putD_eq, mergeD_nil, mergeD_cons, dInF, dFdiv_eq, dMod_eq, dMul_r, dMul_l, dPow_eq, dShr_eq, dLt_eq, dLe_eq, dGt_eq, dGe_eq, dEq_int, dNe_int, dEq_bl, dNe_bl, dEq_str, dNe_str, atI_z, atI_lit, atI_n, ixN_lit, ixN_n, fz, fzs, fzO, wipeD, dIx_l, dIx_t, gNl_1, csK_1, gCs_1, gTu_1, itemsL_1, itemsT_1, mRng_1, mRng_2, dTup_1, dLst_1, setSlot_1, setK_1, gNm_1, dLen_l, dLen_t, dTuple_l, dTuple_t, dList_l, dList_t, oNo_1, oK_1, slK_1, slK1_1, slK2_1, dCut_l, dCut_t, isi_bool_bool, isi_bool_int, isi_bool_str, isi_bool_tuple, isi_bool_list, isi_int_bool, isi_int_int, isi_int_str, isi_int_tuple, isi_int_list, isi_str_bool, isi_str_int, isi_str_str, isi_str_tuple, isi_str_list, isi_tuple_bool, isi_tuple_int, isi_tuple_str, isi_tuple_tuple, isi_tuple_list, isi_list_bool, isi_list_int, isi_list_str, isi_list_tuple, isi_list_list, isi_nonetype_bool, isi_nonetype_int, isi_nonetype_str, isi_nonetype_tuple, isi_nonetype_list, isi_T, eh, hn0, hc1, hcf]
    rw [show w.length - (w.length - b) = b by omega]
end
theorem sum_ok (w : List Nat) (hw : w.length ≤ 10000) (hasc : ∀ c ∈ w, c < 128) : ∀ (n d a : Nat) (e : Ex) (r : List Nat), a ≤ w.length → pSum n d (w.drop a) = some (e, r) → F_Cursor_sum_told n [cur w (a : Int) (d : Int)] = some (encX e, [some (cur w ((w.length - r.length : Nat) : Int) (d : Int))])
  | 0, _, _, _, _, _, h => by cases h
  | n + 1, d, a, e, r, ha, h => by
    unfold pSum at h
    split at h
    case h_2 => cases h
    rename_i f r1 hf
    exact sum_ok1 w hw hasc (pSum_suf n) (sum_ok w hw hasc n) d a e f r r1 ha hf h
/-- an expression that a word writes -/
theorem expr_read (w : List Nat) (hw : w.length ≤ 60) (hasc : ∀ c ∈ w, c < 128) (e : Ex) (h : pSum 12 0 w = some (e, [])) : F_expression [tC w] = some (encX e, [some (tC w)]) := by
  have e1 : F_Cursor_sum_told 12 [cur w 0 0] = some (encX e, [some (cur w (w.length : Int) 0)]) := sum_ok w (by omega) hasc 12 0 0 e [] (by omega) h
  have hc := @clean_C1 w
  have hf := @fz_C1 w
  have hcx := clean_X e
  have el : dLen [tC w] = some (tN w.length) := dLen_s (z := ⟨⟨w⟩⟩) (by rw [len_l]; omega)
  have eh := here_ok w (by omega) w.length 0
  rw [hereC_nil (Nat.le_refl _)] at eh
  have hn0 := hr_nil
  have hc1 := @clean_C1 []
  unfold cur at e1 eh
  apply ok_is
  simp [ok_some, ok_none, br_true, br_false, req_true, req_false, okFz_b, dAdd_lst, dAdd_tp, take_nil, take_ex, take_bo, put_nil, put_bo, put_ex, outs, fxOf, ofStr_inj, dAdd_int, dSub_eq, clean, cleans, isN, dDictD_1, itemsS_1, dJoin_1, dStrF_1, dAdd_str, mPairs_nil, mPairs_cons, dMin2_1, dMax2_1, dAbs_1, dIntF_1, dIntF_2, isDic_d, isDic_v, isDic_t, isDic_l, dKey_i, dKey_s, dKx_i, dKx_s, dKin_i, dKin_s, getD_nil, getD_cons, hasK_nil, hasK_cons, putD_eq, mergeD_nil, mergeD_cons, dInF, dFdiv_eq, dMod_eq, dMul_r, dMul_l, dPow_eq, dShr_eq, dLt_eq, dLe_eq, dGt_eq, dGe_eq, dEq_int, dNe_int, dEq_bl, dNe_bl, dEq_str, dNe_str, atI_z, atI_lit, atI_n, ixN_lit, ixN_n, fz, fzs, fzO, wipeD, dIx_l, dIx_t, gNl_1, csK_1, gCs_1, gTu_1, itemsL_1, itemsT_1, mRng_1, mRng_2, dTup_1, dLst_1, setSlot_1, setK_1, gNm_1, dLen_l, dLen_t, dTuple_l, dTuple_t, dList_l, dList_t, oNo_1, oK_1, slK_1, slK1_1, slK2_1, dCut_l, dCut_t, isi_bool_bool, isi_bool_int, isi_bool_str, isi_bool_tuple, isi_bool_list, isi_int_bool, isi_int_int, isi_int_str, isi_int_tuple, isi_int_list, isi_str_bool, isi_str_int, isi_str_str, isi_str_tuple, isi_str_list, isi_tuple_bool, isi_tuple_int, isi_tuple_str, isi_tuple_tuple, isi_tuple_list, isi_list_bool, isi_list_int, isi_list_str, isi_list_tuple, isi_list_list, isi_nonetype_bool, isi_nonetype_int, isi_nonetype_str, isi_nonetype_tuple, isi_nonetype_list, isi_T, F_expression, m_expression, m_expression_0, m_expression_0_0, m_expression_1, m_expression_2, m_expression_3, m_expression_4, m_expression_3_0, F_Cursor_init, m_Cursor_init, el, hc, hf, c_MOST_SIGNS, e1, eh, hn0, hc1, hcx]
  refine br_neg (by omega) ?_
  simp [ok_some, ok_none, br_true, br_false, req_true, req_false, okFz_b, dAdd_lst, dAdd_tp, take_nil, take_ex, take_bo, put_nil, put_bo, put_ex, outs, fxOf, ofStr_inj, dAdd_int, dSub_eq, clean, cleans, isN, dDictD_1, itemsS_1, dJoin_1, dStrF_1, dAdd_str, mPairs_nil, mPairs_cons, dMin2_1, dMax2_1, dAbs_1, dIntF_1, dIntF_2, isDic_d, isDic_v, isDic_t, isDic_l, dKey_i, dKey_s, dKx_i, dKx_s, dKin_i, dKin_s, getD_nil, getD_cons, hasK_nil, hasK_cons, putD_eq, mergeD_nil, mergeD_cons, dInF, dFdiv_eq, dMod_eq, dMul_r, dMul_l, dPow_eq, dShr_eq, dLt_eq, dLe_eq, dGt_eq, dGe_eq, dEq_int, dNe_int, dEq_bl, dNe_bl, dEq_str, dNe_str, atI_z, atI_lit, atI_n, ixN_lit, ixN_n, fz, fzs, fzO, wipeD, dIx_l, dIx_t, gNl_1, csK_1, gCs_1, gTu_1, itemsL_1, itemsT_1, mRng_1, mRng_2, dTup_1, dLst_1, setSlot_1, setK_1, gNm_1, dLen_l, dLen_t, dTuple_l, dTuple_t, dList_l, dList_t, oNo_1, oK_1, slK_1, slK1_1, slK2_1, dCut_l, dCut_t, isi_bool_bool, isi_bool_int, isi_bool_str, isi_bool_tuple, isi_bool_list, isi_int_bool, isi_int_int, isi_int_str, isi_int_tuple, isi_int_list, isi_str_bool, isi_str_int, isi_str_str, isi_str_tuple, isi_str_list, isi_tuple_bool, isi_tuple_int, isi_tuple_str, isi_tuple_tuple, isi_tuple_list, isi_list_bool, isi_list_int, isi_list_str, isi_list_tuple, isi_list_list, isi_nonetype_bool, isi_nonetype_int, isi_nonetype_str, isi_nonetype_tuple, isi_nonetype_list, isi_T, F_Cursor_init, m_Cursor_init, hc, hf, e1, eh, hn0, hc1, hcx]
  done
end My
set_option exponentiation.threshold 10000
namespace My
open PySem L2 Z
/-! ### words out of parts, and the two heaps -/
inductive Tk where
  | lp | rp
  | op (c : Nat)
  | num (n : Nat)
  | nm (l : List Nat)
def sgT : Tk → List Nat
  | .lp => [40]
  | .rp => [41]
  | .op c => [c]
  | .num n => (sN (n : Int)).cps.toList
  | .nm l => l
def sg (T : List Tk) : List Nat := T.flatMap sgT
def opC (c : Nat) : Prop := c = 43 ∨ c = 45 ∨ c = 42
mutual
def wfA (Q : List Nat → Prop) (d : Nat) : List Tk → Prop
  | .lp :: t => d + 1 ≤ 5 ∧ wfA Q (d + 1) t
  | .num n :: t => n < 1000 ∧ wfO Q d t
  | .nm l :: t => Q l ∧ wfO Q d t
  | _ => False
def wfO (Q : List Nat → Prop) (d : Nat) : List Tk → Prop
  | [] => d = 0
  | .rp :: t => 1 ≤ d ∧ wfO Q (d - 1) t
  | .op c :: t => opC c ∧ wfA Q d t
  | _ => False
end
def ap (c : Nat) (a b : Int) : Int := if c = 43 then a + b else if c = 45 then a - b else a * b
def redA (star : Bool) : List Int → List Nat → Option (List Int × List Nat)
  | N, [] => some (N, [])
  | N, c :: S => if c ≠ 40 ∧ (star = false ∨ c = 42) then match N with
      | b :: a :: N' => redA star (ap c a b :: N') S
      | _ => none
    else some (N, c :: S)
def syS (g : List Nat → Int) (N : List Int) (S : List Nat) : Tk → Option (List Int × List Nat)
  | .lp => some (N, 40 :: S)
  | .num n => some ((n : Int) :: N, S)
  | .nm l => some (g l :: N, S)
  | .op c => (redA (decide (c = 42)) N S).map fun p => (p.1, c :: p.2)
  | .rp => (redA false N S).map fun p => (p.1, p.2.tail)
def sy (g : List Nat → Int) : List Tk → List Int × List Nat → Option (List Int × List Nat)
  | [], p => some p
  | t :: T, p => (syS g p.1 p.2 t).bind (sy g T)
def valX (g : List Nat → Int) : Ex → Int
  | .num n => (n : Int)
  | .box l => g l
  | .op c x y => ap c (valX g x) (valX g y)
def base (S : List Nat) : Prop := S = [] ∨ ∃ S', S = 40 :: S'
def noStar (S : List Nat) : Prop := ∀ c S', S = c :: S' → c ≠ 42
theorem base_ns {S : List Nat} (h : base S) : noStar S := fun c S' e => by
  rcases h with rfl | ⟨S2, rfl⟩
  · cases e
  · cases e; decide
theorem redA_base {S : List Nat} (h : base S) (b : Bool) (N : List Int) : redA b N S = some (N, S) := by
  rcases h with rfl | ⟨S2, rfl⟩
  · unfold redA; rfl
  · unfold redA; rw [if_neg (by simp)]
theorem redA_ns {S : List Nat} (h : noStar S) (N : List Int) : redA true N S = some (N, S) := by
  cases S with
  | nil => rfl
  | cons c S =>
    have := h c S rfl
    unfold redA
    rw [if_neg (by simp [this])]
theorem redA_tf : ∀ (S : List Nat) (N N' : List Int) (S' : List Nat), redA true N S = some (N', S') → redA false N S = redA false N' S'
  | [], N, N', S', h => by unfold redA at h; cases h; rfl
  | c :: S, N, N', S', h => by
    unfold redA at h
    split at h
    · rename_i hc
      obtain ⟨h40, hs⟩ := hc
      have h42 : c = 42 := by simpa using hs
      match N, h with
      | b :: a :: N2, h =>
        have ih := redA_tf S _ _ _ h
        rw [← ih]
        conv => lhs; unfold redA
        rw [if_pos ⟨h40, .inl rfl⟩]
    · cases h; rfl
/-! what the reading of parts comes to -/
def okX (Q : List Nat → Prop) : Ex → Prop
  | .num n => n < 1000
  | .box l => Q l
  | .op c x y => opC c ∧ okX Q x ∧ okX Q y
def lvX : Ex → Nat
  | .op _ x y => lvX x + lvX y
  | _ => 1
def nlf : List Tk → Nat
  | [] => 0
  | .num _ :: t => 1 + nlf t
  | .nm _ :: t => 1 + nlf t
  | .lp :: t => nlf t
  | .rp :: t => nlf t
  | .op _ :: t => nlf t
theorem nlf_app : ∀ A B : List Tk, nlf (A ++ B) = nlf A + nlf B
  | [], B => by simp [nlf]
  | t :: A, B => by
    have := nlf_app A B
    cases t <;> simp only [List.cons_append, nlf, this] <;> omega
variable {Q : List Nat → Prop}
def hdOp (T : List Tk) : Prop := ∃ c T', T = .op c :: T'
def SumP (Q : List Nat → Prop) (g : List Nat → Int) (m d : Nat) (T : List Tk) : Prop := wfA Q d T → ∃ e T', wfO Q d T' ∧ (T'.length < T.length ∧ okX Q e ∧ lvX e + nlf T' ≤ nlf T) ∧ ¬ hdOp T' ∧ pSum m d (sg T) = some (e, sg T') ∧ ∀ N S, base S → ∃ N1 S1, sy g T (N, S) = sy g T' (N1, S1) ∧ redA false N1 S1 = some (valX g e :: N, S)
def FacP (Q : List Nat → Prop) (g : List Nat → Int) (m d : Nat) (T : List Tk) : Prop := wfA Q d T → ∃ e T', wfO Q d T' ∧ (T'.length < T.length ∧ okX Q e ∧ lvX e + nlf T' ≤ nlf T) ∧ pFac (pSum m) d (sg T) = some (e, sg T') ∧ ∀ N S, sy g T (N, S) = sy g T' (valX g e :: N, S)
theorem sg_cons (t : Tk) (T : List Tk) : sg (t :: T) = sgT t ++ sg T := by simp [sg]
theorem tw_app {p : Nat → Bool} {l r : List Nat} (h1 : l.all p = true) (h2 : ∀ c r', r = c :: r' → p c = false) : (l ++ r).takeWhile p = l ∧ (l ++ r).dropWhile p = r := by
  have hr : r.takeWhile p = [] ∧ r.dropWhile p = r := by
    cases r with
    | nil => exact ⟨rfl, rfl⟩
    | cons c r' => have := h2 c r' rfl; simp [List.takeWhile_cons, List.dropWhile_cons, this]
  induction l with
  | nil => exact hr
  | cons c l ih =>
    simp only [List.all_cons, Bool.and_eq_true] at h1
    obtain ⟨i1, i2⟩ := ih h1.2
    simp only [List.cons_append, List.takeWhile_cons, List.dropWhile_cons, h1.1, if_true, i1, i2, and_self]
theorem wfO_no {d : Nat} {T : List Tk} (h : wfO Q d T) (p : Nat → Bool) (h41 : p 41 = false) (h43 : ∀ c, opC c → p c = false) : ∀ c r', sg T = c :: r' → p c = false := by
  intro c r' e
  match T, h with
  | [], _ => cases e
  | .rp :: t, _ => rw [sg_cons] at e; cases e; exact h41
  | .op k :: t, h =>
    unfold wfO at h
    rw [sg_cons] at e; cases e; exact h43 _ h.1
theorem dig_no : dig 41 = false ∧ ∀ c, opC c → dig c = false := ⟨by decide, fun c h => by rcases h with rfl | rfl | rfl <;> decide⟩
theorem let_no : lett 41 = false ∧ ∀ c, opC c → lett c = false := ⟨by decide, fun c h => by rcases h with rfl | rfl | rfl <;> decide⟩
def numP (n : Nat) : Bool := plainB (sN (n : Int)).cps.toList && (sN (n : Int)).cps.toList.all dig && decide (numL (sN (n : Int)).cps.toList = n)
theorem numP_run : ∀ n ∈ List.range 1000, numP n = true := by decide +kernel
theorem plain_hd {l : List Nat} (h : plainB l = true) : ∃ c l', l = c :: l' ∧ dig c = true := by
  match l, h with
  | [a], h => exact ⟨a, [], rfl, h⟩
  | [a, b], h => simp only [plainB, Bool.and_eq_true] at h; exact ⟨a, [b], rfl, h.1.2⟩
  | [a, b, c], h => simp only [plainB, Bool.and_eq_true] at h; exact ⟨a, [b, c], rfl, h.1.1.2⟩
theorem fac_of (hQ : ∀ l, Q l → nameB l = true) (g : List Nat → Int) (m d : Nat) (T : List Tk) (IH : ∀ T2 : List Tk, T2.length < T.length → d + 1 ≤ 5 → SumP Q g m (d + 1) T2) : FacP Q g m d T := by
  intro hw
  match T, hw, IH with
  | .lp :: t, hw, IH =>
    unfold wfA at hw
    obtain ⟨e, T', h1, h2, h3, h4, h5⟩ := IH t (by simp) hw.1 hw.2
    match T', h1, h2, h3, h4, h5 with
    | [], h1, _, _, _, _ => unfold wfO at h1; omega
    | .op c :: t2, _, _, h3, _, _ => exact absurd ⟨c, t2, rfl⟩ h3
    | .rp :: t2, h1, h2, h3, h4, h5 =>
      unfold wfO at h1
      refine ⟨e, t2, by simpa using h1.2, ⟨by have := h2.1; simp at this ⊢; omega, h2.2.1, by have := h2.2.2; simp only [nlf] at this ⊢; omega⟩, ?_, fun N S => ?_⟩
      · rw [sg_cons]
        show pBr (pSum m) d (sg t) = _
        unfold pBr
        rw [if_neg (by omega), h4, sg_cons]
        rfl
      · obtain ⟨N1, S1, h6, h7⟩ := h5 N (40 :: S) (.inr ⟨S, rfl⟩)
        show sy g t (N, 40 :: S) = _
        rw [h6]
        show ((redA false N1 S1).map fun p => (p.1, p.2.tail)).bind (sy g t2) = _
        rw [h7]; rfl
  | .num n :: t, hw, _ =>
    unfold wfA at hw
    have hp := numP_run n (List.mem_range.mpr hw.1)
    unfold numP at hp
    simp only [Bool.and_eq_true, decide_eq_true_eq] at hp
    obtain ⟨⟨p1, p2⟩, p3⟩ := hp
    obtain ⟨q1, q2⟩ := tw_app p2 (wfO_no hw.2 dig dig_no.1 dig_no.2)
    refine ⟨.num n, t, hw.2, ⟨by simp, hw.1, by simp only [nlf, lvX]; omega⟩, ?_, fun N S => rfl⟩
    rw [sg_cons]
    show pFac (pSum m) d ((sN (n : Int)).cps.toList ++ sg t) = _
    obtain ⟨c, l', hl, hc⟩ := plain_hd p1
    unfold pFac
    rw [q1, q2, p1, p3]
    rw [hl]
    split
    · rename_i e; cases e; exact absurd hc (by decide)
    · rw [if_pos rfl]
  | .nm l :: t, hw, _ =>
    unfold wfA at hw
    have hnB := hQ l hw.1
    have hn := hnB
    unfold nameB at hn
    simp only [Bool.and_eq_true, decide_eq_true_eq] at hn
    obtain ⟨q1, q2⟩ := tw_app hn.2 (wfO_no hw.2 lett let_no.1 let_no.2)
    refine ⟨.box l, t, hw.2, ⟨by simp, hw.1, by simp only [nlf, lvX]; omega⟩, ?_, fun N S => rfl⟩
    rw [sg_cons]
    show pFac (pSum m) d (l ++ sg t) = _
    match l, hnB, hn, q1, q2 with
    | [], _, hn, _, _ => exact absurd hn.1.1.1 (by simp)
    | c :: l', hnm, hn, q1, q2 =>
      have hcl : lett c = true := by have := hn.2; simp only [List.all_cons, Bool.and_eq_true] at this; exact this.1
      have hcd : dig c = false := by
        have := of_decide_eq_true hcl
        exact decide_eq_false (by omega)
      have t1 : (c :: l' ++ sg t).takeWhile dig = [] := by simp [List.takeWhile_cons, hcd]
      have t2 : (c :: l' ++ sg t).dropWhile dig = c :: l' ++ sg t := by simp [List.dropWhile_cons, hcd]
      unfold pFac
      rw [t1, t2, q1, q2]
      split
      · rename_i e; cases e; exact absurd hcl (by decide)
      · rw [if_neg (by decide), if_pos ⟨rfl, hnm⟩]
end My
set_option exponentiation.threshold 10000
namespace My
open PySem L2 Z
/-! terms and sums of parts -/
def hdStar (T : List Tk) : Prop := ∃ T', T = .op 42 :: T'
variable {Q : List Nat → Prop}
def TerP (Q : List Nat → Prop) (g : List Nat → Int) (m d : Nat) (T : List Tk) : Prop := wfA Q d T → ∃ e T', wfO Q d T' ∧ (T'.length < T.length ∧ okX Q e ∧ lvX e + nlf T' ≤ nlf T) ∧ ¬ hdStar T' ∧ pTer (pSum m) d (sg T) = some (e, sg T') ∧ ∀ N S, noStar S → ∃ N1 S1, sy g T (N, S) = sy g T' (N1, S1) ∧ redA true N1 S1 = some (valX g e :: N, S)
theorem sg_hd {d : Nat} {T : List Tk} (h : wfO Q d T) : sg T = [] ∧ T = [] ∨ (∃ t, T = .rp :: t ∧ sg T = 41 :: sg t) ∨ ∃ c t, T = .op c :: t ∧ opC c ∧ wfA Q d t ∧ sg T = c :: sg t := by
  match T, h with
  | [], _ => exact .inl ⟨rfl, rfl⟩
  | .rp :: t, _ => exact .inr (.inl ⟨t, rfl, by rw [sg_cons]; rfl⟩)
  | .op c :: t, h => unfold wfO at h; exact .inr (.inr ⟨c, t, rfl, h.1, h.2, by rw [sg_cons]; rfl⟩)
theorem terL_stop (S : Nat → List Nat → Option (Ex × List Nat)) (d k : Nat) (e : Ex) (r : List Nat) (h : ∀ r', r ≠ 42 :: r') : pTerL S d k e r = some (e, r) := by
  cases k with
  | zero =>
    unfold pTerL
    rw [if_neg]
    intro q
    cases r with
    | nil => cases q
    | cons c r => simp at q; subst q; exact h r rfl
  | succ k =>
    unfold pTerL
    split
    · rename_i r1; exact absurd rfl (h r1)
    · rfl
theorem sumL_stop (S : Nat → List Nat → Option (Ex × List Nat)) (d k : Nat) (e : Ex) (r : List Nat) (h : ∀ c r', r = c :: r' → isPM c = false) : pSumL S d k e r = some (e, r) := by
  cases r with
  | nil => cases k <;> rfl
  | cons c r =>
    have := h c r rfl
    cases k <;> (unfold pSumL; simp [this])
theorem ter_loop (g : List Nat → Int) (m d n : Nat) (HF : ∀ T2 : List Tk, T2.length < n → FacP Q g m d T2) : ∀ (q : Nat) (T : List Tk), T.length ≤ q → T.length ≤ n → wfO Q d T → ∀ (k : Nat) (e0 : Ex), (sg T).length ≤ k → ∃ e T', wfO Q d T' ∧ (T'.length ≤ T.length ∧ (okX Q e0 → okX Q e) ∧ lvX e + nlf T' ≤ lvX e0 + nlf T) ∧ ¬ hdStar T' ∧ pTerL (pSum m) d k e0 (sg T) = some (e, sg T') ∧ ∀ N S N1 S1, noStar S → redA true N1 S1 = some (valX g e0 :: N, S) → ∃ N2 S2, sy g T (N1, S1) = sy g T' (N2, S2) ∧ redA true N2 S2 = some (valX g e :: N, S)
  | q, T, hq, hn, hw, k, e0, hk => by
    rcases sg_hd hw with ⟨h1, rfl⟩ | ⟨t, rfl, h1⟩ | ⟨c, t, rfl, hc, hwt, h1⟩
    · refine ⟨e0, [], hw, ⟨Nat.le_refl _, id, Nat.le_refl _⟩, (fun ⟨t, z⟩ => by cases z), ?_, fun N S N1 S1 _ h => ⟨N1, S1, rfl, h⟩⟩
      rw [h1]; exact terL_stop _ d k e0 [] (fun r' z => by cases z)
    · refine ⟨e0, _, hw, ⟨Nat.le_refl _, id, Nat.le_refl _⟩, (fun ⟨t, z⟩ => by cases z), ?_, fun N S N1 S1 _ h => ⟨N1, S1, rfl, h⟩⟩
      rw [h1]; exact terL_stop _ d k e0 _ (fun r' z => by cases z)
    · by_cases h42 : c = 42
      · subst h42
        obtain ⟨f, T2, hw2, hl2, hp2, hs2⟩ := HF t (by simp at hn; omega) hwt
        have hsl : (sg T2).length ≤ (sg t).length := by
          obtain ⟨p, _, hp⟩ := pFac_suf (pSum_suf m) _ _ _ _ hp2
          rw [hp]; simp
        rw [h1] at hk ⊢
        cases k with
        | zero => simp at hk
        | succ k =>
          cases q with
          | zero => simp at hq
          | succ q =>
            simp only [List.length_cons] at hk hq hn
            obtain ⟨e, T', a1, a2, a3, a4, a5⟩ := ter_loop g m d n HF q T2 (by omega) (by omega) hw2 k (.op 42 e0 f) (by omega)
            refine ⟨e, T', a1, ⟨by simp; omega, fun z => a2.2.1 ⟨.inr (.inr rfl), z, hl2.2.1⟩, by have := a2.2.2; have h9 := hl2.2.2; simp only [lvX] at this; simp only [nlf]; omega⟩, a3, ?_, fun N S N1 S1 hS h => ?_⟩
            · conv => lhs; unfold pTerL
              simp only [hp2]
              exact a4
            · obtain ⟨N2, S2, b1, b2⟩ := a5 N S (valX g f :: valX g e0 :: N) (42 :: S) hS (by
                unfold redA
                rw [if_pos ⟨by decide, .inr rfl⟩]
                exact redA_ns hS _)
              refine ⟨N2, S2, ?_, b2⟩
              rw [← b1, ← hs2]
              show ((redA (decide (42 = 42)) N1 S1).map fun p => (p.1, 42 :: p.2)).bind (sy g t) = _
              rw [show decide (42 = 42) = true from rfl, h]; rfl
      · refine ⟨e0, _, hw, ⟨Nat.le_refl _, id, Nat.le_refl _⟩, (fun ⟨t, z⟩ => by cases z; exact h42 rfl), ?_, fun N S N1 S1 _ h => ⟨N1, S1, rfl, h⟩⟩
        rw [h1]; exact terL_stop _ d k e0 _ (fun r' z => by cases z; exact h42 rfl)
theorem ter_of (g : List Nat → Int) (m d : Nat) (T : List Tk) (HF : ∀ T2 : List Tk, T2.length < T.length + 1 → FacP Q g m d T2) : TerP Q g m d T := by
  intro hw
  obtain ⟨f, T2, h1, h2, h3, h4⟩ := HF T (by omega) hw
  obtain ⟨e, T', a1, a2, a3, a4, a5⟩ := ter_loop g m d T.length (fun T3 h => HF T3 (by omega)) T2.length T2 (Nat.le_refl _) (by omega) h1 (sg T2).length f (Nat.le_refl _)
  refine ⟨e, T', a1, ⟨by omega, a2.2.1 h2.2.1, by omega⟩, a3, ?_, fun N S hS => ?_⟩
  · unfold pTer
    rw [h3]
    exact a4
  · obtain ⟨N2, S2, b1, b2⟩ := a5 N S (valX g f :: N) S hS (redA_ns hS _)
    exact ⟨N2, S2, by rw [h4, b1], b2⟩
theorem sum_loop (g : List Nat → Int) (m d n : Nat) (HT : ∀ T2 : List Tk, T2.length < n → TerP Q g m d T2) : ∀ (q : Nat) (T : List Tk), T.length ≤ q → T.length ≤ n → wfO Q d T → ¬ hdStar T → ∀ (k : Nat) (e0 : Ex), (sg T).length ≤ k → ∃ e T', wfO Q d T' ∧ (T'.length ≤ T.length ∧ (okX Q e0 → okX Q e) ∧ lvX e + nlf T' ≤ lvX e0 + nlf T) ∧ ¬ hdOp T' ∧ pSumL (pSum m) d k e0 (sg T) = some (e, sg T') ∧ ∀ N S N1 S1, base S → redA false N1 S1 = some (valX g e0 :: N, S) → ∃ N2 S2, sy g T (N1, S1) = sy g T' (N2, S2) ∧ redA false N2 S2 = some (valX g e :: N, S)
  | q, T, hq, hn, hw, hns, k, e0, hk => by
    rcases sg_hd hw with ⟨h1, rfl⟩ | ⟨t, rfl, h1⟩ | ⟨c, t, rfl, hc, hwt, h1⟩
    · refine ⟨e0, [], hw, ⟨Nat.le_refl _, id, Nat.le_refl _⟩, (fun ⟨c, t, z⟩ => by cases z), ?_, fun N S N1 S1 _ h => ⟨N1, S1, rfl, h⟩⟩
      rw [h1]; exact sumL_stop _ d k e0 [] (fun c r' z => by cases z)
    · refine ⟨e0, _, hw, ⟨Nat.le_refl _, id, Nat.le_refl _⟩, (fun ⟨c, t, z⟩ => by cases z), ?_, fun N S N1 S1 _ h => ⟨N1, S1, rfl, h⟩⟩
      rw [h1]; exact sumL_stop _ d k e0 _ (fun c r' z => by cases z; decide)
    · have hc2 : c = 43 ∨ c = 45 := by
        rcases hc with h | h | h
        · exact .inl h
        · exact .inr h
        · subst h; exact absurd ⟨t, rfl⟩ hns
      have hpm : isPM c = true := decide_eq_true hc2
      have h42 : decide (c = 42) = false := decide_eq_false (by omega)
      obtain ⟨f, T2, hw2, hl2, hns2, hp2, hs2⟩ := HT t (by simp at hn; omega) hwt
      have hsl : (sg T2).length ≤ (sg t).length := by
        obtain ⟨p, _, hp⟩ := pTer_suf (pSum_suf m) _ _ _ _ hp2
        rw [hp]; simp
      rw [h1] at hk ⊢
      cases k with
      | zero => simp at hk
      | succ k =>
        cases q with
        | zero => simp at hq
        | succ q =>
          simp only [List.length_cons] at hk hq hn
          obtain ⟨e, T', a1, a2, a3, a4, a5⟩ := sum_loop g m d n HT q T2 (by omega) (by omega) hw2 hns2 k (.op c e0 f) (by omega)
          refine ⟨e, T', a1, ⟨by simp; omega, fun z => a2.2.1 ⟨hc, z, hl2.2.1⟩, by have := a2.2.2; have h9 := hl2.2.2; simp only [lvX] at this; simp only [nlf]; omega⟩, a3, ?_, fun N S N1 S1 hS h => ?_⟩
          · conv => lhs; unfold pSumL
            simp only [hpm, if_true, hp2]
            exact a4
          · obtain ⟨N3, S3, b1, b2⟩ := hs2 (valX g e0 :: N) (c :: S) (fun c' S' z => by cases z; omega)
            have b3 : redA false N3 S3 = some (valX g (.op c e0 f) :: N, S) := by
              rw [redA_tf _ _ _ _ b2]
              unfold redA
              rw [if_pos ⟨by omega, .inl rfl⟩]
              exact redA_base hS _ _
            obtain ⟨N2, S2, c1, c2⟩ := a5 N S N3 S3 hS b3
            refine ⟨N2, S2, ?_, c2⟩
            rw [← c1, ← b1]
            show ((redA (decide (c = 42)) N1 S1).map fun p => (p.1, c :: p.2)).bind (sy g t) = _
            rw [h42, h]; rfl
theorem sum_of (g : List Nat → Int) (m d : Nat) (T : List Tk) (HT : ∀ T2 : List Tk, T2.length < T.length + 1 → TerP Q g m d T2) : SumP Q g (m + 1) d T := by
  intro hw
  obtain ⟨f, T2, h1, h2, h2s, h3, h4⟩ := HT T (by omega) hw
  obtain ⟨e, T', a1, a2, a3, a4, a5⟩ := sum_loop g m d T.length (fun T3 h => HT T3 (by omega)) T2.length T2 (Nat.le_refl _) (by omega) h1 h2s (sg T2).length f (Nat.le_refl _)
  refine ⟨e, T', a1, ⟨by omega, a2.2.1 h2.2.1, by omega⟩, a3, ?_, fun N S hS => ?_⟩
  · unfold pSum
    rw [h3]
    exact a4
  · obtain ⟨N3, S3, b1, b2⟩ := h4 N S (base_ns hS)
    obtain ⟨N2, S2, c1, c2⟩ := a5 N S N3 S3 hS (by rw [redA_tf _ _ _ _ b2]; exact redA_base hS _ _)
    exact ⟨N2, S2, by rw [b1, c1], c2⟩
theorem sum_all (hQ : ∀ l, Q l → nameB l = true) (g : List Nat → Int) : ∀ (n : Nat) (T : List Tk), T.length ≤ n → ∀ m d, 6 - d ≤ m → d ≤ 5 → SumP Q g m d T
  | n, T, hT, m, d, hm, hd => by
    cases m with
    | zero => omega
    | succ m =>
      refine sum_of g m d T fun T2 h2 => ter_of g m d T2 fun T3 h3 => fac_of hQ g m d T3 fun T4 h4 hd4 => ?_
      cases n with
      | zero => omega
      | succ n => exact sum_all hQ g n T4 (by omega) m (d + 1) (by omega) (by omega)
/-- what a word of parts is worth -/
theorem parts_read (hQ : ∀ l, Q l → nameB l = true) (g : List Nat → Int) (T : List Tk) (h : wfA Q 0 T) : ∃ e, pSum 12 0 (sg T) = some (e, []) ∧ okX Q e ∧ lvX e ≤ nlf T ∧ ∃ N1 S1, sy g T ([], []) = some (N1, S1) ∧ redA false N1 S1 = some ([valX g e], []) := by
  obtain ⟨e, T', h1, h2, h3, h4, h5⟩   := sum_all hQ g T.length T (Nat.le_refl _) 12 0 (by omega) (by omega) h
  have hT : T' = [] := by
    rcases sg_hd h1 with ⟨_, q⟩ | ⟨t, rfl, _⟩ | ⟨c, t, rfl, _⟩
    · exact q
    · unfold wfO at h1; omega
    · exact absurd ⟨c, t, rfl⟩ h3
  subst hT
  obtain ⟨N1, S1, a, b⟩ := h5 [] [] (.inl rfl)
  exact ⟨e, h4, h2.2.1, by have := h2.2.2; simpa [nlf] using this, N1, S1, a, b⟩
end My
set_option exponentiation.threshold 10000
namespace My
open PySem L2 Z
/-! ### the law's own reckoning -/
def encG (S : List Nat) : List D := S.map fun c => tC [c]
theorem op_ofS : Str.ofString "+" = ⟨#[43]⟩ ∧ Str.ofString "-" = ⟨#[45]⟩ ∧ Str.ofString "*" = ⟨#[42]⟩ ∧ Str.ofString "(" = ⟨#[40]⟩ ∧ Str.ofString ")" = ⟨#[41]⟩ := by decide +kernel
theorem reckon_ok (N : List Int) (S : List Nat) (a b : Int) (c : Nat) (hc : opC c) (hl : N.length ≤ 1000) (hm : dMul (tI a) (tI b) = some (tI (a * b))) :
    F__law_reckon [.lst .own (intsD (N ++ [a, b])), .lst .own (encG (S ++ [c]))] = some (.v .non, [some (.lst .own (intsD (N ++ [ap c a b]))), some (.lst .own (encG S))]) := by
  have e1 : intsD (N ++ [a, b]) = (intsD N ++ [tI a]) ++ [tI b] := by simp [intsD]
  have e2 : encG (S ++ [c]) = encG S ++ [tC [c]] := by simp [encG]
  have e3 : intsD (N ++ [ap c a b]) = intsD N ++ [tI (ap c a b)] := by simp [intsD]
  rw [e1, e2, e3]
  have hc1 := @clean_C1 [c]
  have hl2 : (intsD N).length ≤ 1000 := by simpa [intsD] using hl
  obtain ⟨IN, hIN⟩ : ∃ IN, intsD N = IN := ⟨_, rfl⟩
  obtain ⟨GS, hGS⟩ : ∃ GS, encG S = GS := ⟨_, rfl⟩
  rw [hIN] at hl2 ⊢
  rw [hGS]
  have k1 : Str.ofString "+" = ⟨#[43]⟩ := op_ofS.1
  have k2 : Str.ofString "-" = ⟨#[45]⟩ := op_ofS.2.1
  have k3 : Str.ofString "*" = ⟨#[42]⟩ := op_ofS.2.2.1
  have hd : mDisp [((mC (.str "+")), (mOp dAdd (mVar 4) (mVar 3))), ((mC (.str "-")), (mOp dSub (mVar 4) (mVar 3))), ((mC (.str "*")), (mOp dMul (mVar 4) (mVar 3)))] [some (D.lst O.own IN), some (D.lst O.own GS), some (tC [c]), some (tI b), some (tI a)] = some (.dic .own [.inr ⟨#[43]⟩, .inr ⟨#[45]⟩, .inr ⟨#[42]⟩] [tI (a + b), tI (a - b), tI (a * b)], [some (D.lst O.own IN), some (D.lst O.own GS), some (tC [c]), some (tI b), some (tI a)]) := by
    rw [k1, k2, k3]
    simp [fnM_k, mSeq_k, mIf_k, mIfE_k, mOp_k, mLook_k, mVar_k, mMove_k, mTst_k, mAnd_k, mOr_k, mNot_k, mAndV_k, mOrV_k, mNotV_k, mNeg_k, mAsg_k, mRet_k, mRetN, mDrop_k, mSkip, mC, mK, mCons_k, mNil, mFn_k, mSetIx_k, mAug_k, mAppend_k, mAsgT_k, mIt_k, mRngA_k, mFor_k, mLc_k, mCall_k, mArgs_nil, mArgs_ex, mArgs_bo, take_nil, take_ex, take_bo, put_nil, put_bo, put_ex, outs, fxOf, ofStr_inj, dAdd_int, dSub_eq, clean, cleans, mIsN_k, mIsNV_k, isN, mPutK_k, mNewK_k, dDictD_1, mFrz_k, orFz_k, fzAt_k, mPar_k, mEnum_k, mZip_k, mLookL_k, mMt_k, itemsS_1, dJoin_1, dStrF_1, dAdd_str, mChn_k, mRev_k, mExtend_k, mPop_k, mClear_k, mLookA_k, mLookR_k, mInV_k, mPairs_nil, mPairs_cons, mDisp_k, dMin2_1, dMax2_1, dAbs_1, dIntF_1, dIntF_2, isDic_d, isDic_v, isDic_t, isDic_k, isDic_l, dKey_i, dKey_s, dKx_i, dKx_s, dKin_i, dKin_s, getD_nil, getD_cons, hasK_nil, hasK_cons, putD_eq, mergeD_nil, mergeD_cons, dInF, dFdiv_eq, dMod_eq, dMul_r, dMul_l, dPow_eq, dShr_eq, dLt_eq, dLe_eq, dGt_eq, dGe_eq, dEq_int, dNe_int, dEq_bl, dNe_bl, dEq_str, dNe_str, atI_z, atI_lit, atI_n, ixN_lit, ixN_n, fz, fzs, fzO, mYes, wipeD, mBrk, mCnt, seqK_1, seqK_2, seqK_3, seqK_4, seqK_5, ifK_1, ifK_2, ifK_3, opK3_1, opK3_2, opK2_1, opK2_2, opK_1, opK_2, lookK3_1, lookK3_2, lookK2_1, lookK2_2, lookK1_1, lookK1_2, lookK_1, lookK_2, varK_1, varK_2, moveK_1, moveK_2, tstK_1, tstK_2, andK_1, andK_2, andK_3, orK_1, orK_2, orK_3, notK_1, notK_2, andVK_1, andVK_2, andVK_3, orVK_1, orVK_2, orVK_3, notVK_1, notVK_2, negK_1, negK_2, asgK_1, asgK_2, retK_1, retK_2, dropK_1, dropK_2, consK2_1, consK2_2, consK_1, consK_2, fnK_1, fnK_2, setIxK3_1, setIxK3_2, setIxK2_1, setIxK2_2, setIxK1_1, setIxK1_2, setIxK0_1, setIxK0_2, setIxK_1, setIxK_2, augK2_1, augK2_2, augK_1, augK_2, appendK1_1, appendK1_2, appendK0_1, appendK0_2, appendK_1, appendK_2, asgTK2_1, asgTK2_2, asgTK_1, asgTK_2, itK2_1, itK2_2, itK_1, itK_2, rngK_1, rngK_2, forK_1, forK_2, turnK_1, turnK_2, turnK_3, turnK_4, turnK_5, turnK0_1, turnK0_2, lcK1_1, lcK1_2, lcK_1, lcK_2, lcT2_1, lcT2_2, lcT1_1, lcT1_2, lcT1_3, lcT0_1, lcT0_2, callK2_1, callK2_2, callK1_1, callK1_2, callK_1, callK_2, argK2_1, argK2_2, argK_1, argK_2, argB_1, argB_2, takeK_1, takeK_2, takeB_1, takeB_2, fnMK_1, fnMK_2, fnMK_3, isNK_1, isNK_2, isNVK_1, isNVK_2, chnK3_1, chnK3_2, chnK2_1, chnK2_2, chnK_1, chnK_2, revK_1, revK_2, extendK1_1, extendK1_2, extendK0_1, extendK0_2, extendK0_3, extendK_1, extendK_2, popK2_1, popK2_2, popK_1, popK_2, clearK_1, clearK_2, lookAK_1, lookAK_2, lookRK2_1, lookRK2_2, lookRK_1, lookRK_2, inVK_1, inVK_2, pairsK4_1, pairsK4_2, pairsK3_1, pairsK3_2, pairsK2_1, pairsK2_2, pairsK_1, pairsK_2, dispK2_1, dispK2_2, dispK_1, dispK_2, mergeK__1, mergeK__2, parK2_1, parK2_2, parK_1, parK_2, enumK_1, enumK_2, zipK_1, zipK_2, lookLK_1, lookLK_2, mtK2_1, mtK2_2, mtK_1, mtK_2, orFzK_1, orFzK_2, fzAtK_1, fzAtK_2, frzK_1, frzK_2, putKK5_1, putKK5_2, putKK4_1, putKK4_2, putKK3_1, putKK3_2, putKK2_1, putKK2_2, putKK1_1, putKK1_2, putKK_1, putKK_2, dIx_l, dIx_t, dIx_k, gNl_1, csK_1, gCs_1, gTu_1, itemsL_1, itemsT_1, mRng_1, mRng_2, dTup_1, dLst_1, setSlot_1, setK_1, gNm_1, dLen_l, dLen_t, dTuple_l, dTuple_t, dList_l, dList_t, oNo_1, oYes_k, oK_1, mSl_k, slK_1, slK1_1, slK2_1, dCut_l, dCut_t, ↓hm]
  have hx : dKx (.dic .own [.inr ⟨#[43]⟩, .inr ⟨#[45]⟩, .inr ⟨#[42]⟩] [tI (a + b), tI (a - b), tI (a * b)]) (tC [c]) = some (tI (ap c a b)) := by
    unfold ap
    rcases hc with rfl | rfl | rfl <;> rfl
  apply ok_is
  simp [ok_some, ok_none, br_true, br_false, req_true, req_false, okFz_b, dAdd_lst, dAdd_tp, take_nil, take_ex, take_bo, put_nil, put_bo, put_ex, outs, fxOf, ofStr_inj, dAdd_int, dSub_eq, clean, cleans, isN, dDictD_1, itemsS_1, dJoin_1, dStrF_1, dAdd_str, mPairs_nil, mPairs_cons, dMin2_1, dMax2_1, dAbs_1, dIntF_1, dIntF_2, isDic_d, isDic_v, isDic_t, isDic_l, dKey_i, dKey_s, dKx_i, dKx_s, dKin_i, dKin_s, getD_nil, getD_cons, hasK_nil, hasK_cons, putD_eq, mergeD_nil, mergeD_cons, dInF, dFdiv_eq, dMod_eq, dMul_r, dMul_l, dPow_eq, dShr_eq, dLt_eq, dLe_eq, dGt_eq, dGe_eq, dEq_int, dNe_int, dEq_bl, dNe_bl, dEq_str, dNe_str, atI_z, atI_lit, atI_n, ixN_lit, ixN_n, fz, fzs, fzO, wipeD, dIx_l, dIx_t, gNl_1, csK_1, gCs_1, gTu_1, itemsL_1, itemsT_1, mRng_1, mRng_2, dTup_1, dLst_1, setSlot_1, setK_1, gNm_1, dLen_l, dLen_t, dTuple_l, dTuple_t, dList_l, dList_t, oNo_1, oK_1, slK_1, slK1_1, slK2_1, dCut_l, dCut_t, isi_bool_bool, isi_bool_int, isi_bool_str, isi_bool_tuple, isi_bool_list, isi_int_bool, isi_int_int, isi_int_str, isi_int_tuple, isi_int_list, isi_str_bool, isi_str_int, isi_str_str, isi_str_tuple, isi_str_list, isi_tuple_bool, isi_tuple_int, isi_tuple_str, isi_tuple_tuple, isi_tuple_list, isi_list_bool, isi_list_int, isi_list_str, isi_list_tuple, isi_list_list, isi_nonetype_bool, isi_nonetype_int, isi_nonetype_str, isi_nonetype_tuple, isi_nonetype_list, isi_T, F__law_reckon, m__law_reckon, hc1, ↓hd, hx]
  refine req_mk (by omega) ?_
  simp [ok_some, ok_none, br_true, br_false, req_true, req_false, okFz_b, dAdd_lst, dAdd_tp, take_nil, take_ex, take_bo, put_nil, put_bo, put_ex, outs, fxOf, ofStr_inj, dAdd_int, dSub_eq, clean, cleans, isN, dDictD_1, itemsS_1, dJoin_1, dStrF_1, dAdd_str, mPairs_nil, mPairs_cons, dMin2_1, dMax2_1, dAbs_1, dIntF_1, dIntF_2, isDic_d, isDic_v, isDic_t, isDic_l, dKey_i, dKey_s, dKx_i, dKx_s, dKin_i, dKin_s, getD_nil, getD_cons, hasK_nil, hasK_cons, putD_eq, mergeD_nil, mergeD_cons, dInF, dFdiv_eq, dMod_eq, dMul_r, dMul_l, dPow_eq, dShr_eq, dLt_eq, dLe_eq, dGt_eq, dGe_eq, dEq_int, dNe_int, dEq_bl, dNe_bl, dEq_str, dNe_str, atI_z, atI_lit, atI_n, ixN_lit, ixN_n, fz, fzs, fzO, wipeD, dIx_l, dIx_t, gNl_1, csK_1, gCs_1, gTu_1, itemsL_1, itemsT_1, mRng_1, mRng_2, dTup_1, dLst_1, setSlot_1, setK_1, gNm_1, dLen_l, dLen_t, dTuple_l, dTuple_t, dList_l, dList_t, oNo_1, oK_1, slK_1, slK1_1, slK2_1, dCut_l, dCut_t, isi_bool_bool, isi_bool_int, isi_bool_str, isi_bool_tuple, isi_bool_list, isi_int_bool, isi_int_int, isi_int_str, isi_int_tuple, isi_int_list, isi_str_bool, isi_str_int, isi_str_str, isi_str_tuple, isi_str_list, isi_tuple_bool, isi_tuple_int, isi_tuple_str, isi_tuple_tuple, isi_tuple_list, isi_list_bool, isi_list_int, isi_list_str, isi_list_tuple, isi_list_list, isi_nonetype_bool, isi_nonetype_int, isi_nonetype_str, isi_nonetype_tuple, isi_nonetype_list, isi_T]
/-- the numbers on the heap stay within their bounds -/
def bndN : List Int → List Nat → Prop
  | [], [] => True
  | x :: N, w :: W => x.natAbs ≤ 2 ^ (50 * w) ∧ 1 ≤ w ∧ bndN N W
  | _, _ => False
theorem pow_add_le {a b : Nat} (ha : 1 ≤ a) (hb : 1 ≤ b) : 2 ^ (50 * a) + 2 ^ (50 * b) ≤ 2 ^ (50 * (a + b)) := by
  have h1 : 2 ≤ 2 ^ (50 * a) := by
    have := Nat.pow_le_pow_right (show 0 < 2 by omega) (show 1 ≤ 50 * a by omega)
    simpa using this
  have h2 : 2 ≤ 2 ^ (50 * b) := by
    have := Nat.pow_le_pow_right (show 0 < 2 by omega) (show 1 ≤ 50 * b by omega)
    simpa using this
  rw [Nat.mul_add, Nat.pow_add]
  have h3 := Nat.mul_le_mul_left (2 ^ (50 * a)) h2
  have h4 := Nat.mul_le_mul_right (2 ^ (50 * b)) h1
  rw [Nat.mul_comm] at h3
  omega
theorem ap_bnd {a b : Int} {u v c : Nat} (h1 : a.natAbs ≤ 2 ^ (50 * u)) (h2 : b.natAbs ≤ 2 ^ (50 * v)) (hu : 1 ≤ u) (hv : 1 ≤ v) : (ap c a b).natAbs ≤ 2 ^ (50 * (u + v)) := by
  have h3 := pow_add_le hu hv
  unfold ap
  split
  · have := Int.natAbs_add_le a b; omega
  · split
    · omega
    · rw [Int.natAbs_mul, Nat.mul_add, Nat.pow_add]
      exact Nat.mul_le_mul h1 h2
theorem dMul_big {i j : Int} {a b : Nat} (h1 : i.natAbs ≤ 2 ^ (50 * a)) (h2 : j.natAbs ≤ 2 ^ (50 * b)) (ha : a ≤ 64) (hb : b ≤ 64) : dMul (tI i) (tI j) = some (tI (i * j)) := by
  have key : ∀ {n c : Nat}, n ≤ 2 ^ (50 * c) → c ≤ 64 → n.log2 < 10000 := by
    intro n c h hc
    by_cases h0 : n = 0
    · subst h0; decide
    · rw [Nat.log2_lt h0]
      have : 2 ^ (50 * c) < 2 ^ 10000 := Nat.pow_lt_pow_right (by omega) (by omega)
      omega
  have k1 := key h1 ha
  have k2 := key h2 hb
  unfold dMul dInt2C
  have : cMul i j = true := decide_eq_true (.inr (.inr (by omega)))
  simp only [this, if_true]
theorem bnd_len : ∀ {N : List Int} {W : List Nat}, bndN N W → N.length = W.length ∧ N.length ≤ W.sum
  | [], [], _ => ⟨rfl, Nat.le_refl _⟩
  | x :: N, w :: W, h => by
    have := bnd_len h.2.2
    have h1 := h.2.1
    simp only [List.length_cons, List.sum_cons]
    omega
/-- all that stands on the heaps is worked off, as far as it goes -/
theorem red_loop (star : Bool) (x0 x1 x4 : Option D) (p4 : D) (h4 : x4 = some p4) (hstar : dNe p4 (tS "*") = some (.v (.bl (!star)))) (hcl : clean p4 = true) (hf4 : fz p4 = p4) (N : List Int) (S : List Nat) (N' : List Int) (S' : List Nat) (W : List Nat) (hb : bndN N W) (hW : W.sum ≤ 63) (hS : ∀ c ∈ S, c = 40 ∨ opC c) (hSl : S.length ≤ 1000) (hr : redA star N S = some (N', S')) :
    @Ok _ (m__law_due_2_0b_0b_0b_0 [x0, x1, some (.lst .own (intsD N.reverse)), some (.lst .own (encG S.reverse)), x4]) ⟨(fun o => @Leaf _ o ⟨fun o => (o = .nx [x0, x1, some (.lst .own (intsD N'.reverse)), some (.lst .own (encG S'.reverse)), x4] ∧ ∃ W', bndN N' W' ∧ W'.sum = W.sum ∧ S'.length ≤ S.length ∧ ∀ c ∈ S', c ∈ S)⟩)⟩ := by
  subst h4
  unfold m__law_due_2_0b_0b_0b_0
  refine ok_While (fun v ds => ∃ (N1 : List Int) (S1 : List Nat) (W1 : List Nat), ds = [x0, x1, some (.lst .own (intsD N1.reverse)), some (.lst .own (encG S1.reverse)), some p4] ∧ v = S1.length ∧ redA star N1 S1 = some (N', S') ∧ bndN N1 W1 ∧ W1.sum = W.sum ∧ S1.length ≤ S.length ∧ ∀ c ∈ S1, c ∈ S) S.length ⟨N, S, W, rfl, rfl, hr, hb, rfl, Nat.le_refl _, fun c h => h⟩ (by omega) ?_
  rintro v _ ⟨N1, S1, W1, rfl, rfl, hr1, hb1, hW1, hSL, hS1⟩
  cases S1 with
  | nil =>
    unfold redA at hr1
    cases hr1
    have hn0 : dNe (.lst .own []) (.lst .fro []) = some (.v (.bl false)) := dNe_nil (n := 5) rfl (by decide)
    simp [ok_some, ok_none, br_true, br_false, req_true, req_false, okFz_b, dAdd_lst, dAdd_tp, take_nil, take_ex, take_bo, put_nil, put_bo, put_ex, outs, fxOf, ofStr_inj, dAdd_int, dSub_eq, clean, cleans, isN, dDictD_1, itemsS_1, dJoin_1, dStrF_1, dAdd_str, mPairs_nil, mPairs_cons, dMin2_1, dMax2_1, dAbs_1, dIntF_1, dIntF_2, isDic_d, isDic_v, isDic_t, isDic_l, dKey_i, dKey_s, dKx_i, dKx_s, dKin_i, dKin_s, getD_nil, getD_cons, hasK_nil, hasK_cons, putD_eq, mergeD_nil, mergeD_cons, dInF, dFdiv_eq, dMod_eq, dMul_r, dMul_l, dPow_eq, dShr_eq, dLt_eq, dLe_eq, dGt_eq, dGe_eq, dEq_int, dNe_int, dEq_bl, dNe_bl, dEq_str, dNe_str, atI_z, atI_lit, atI_n, ixN_lit, ixN_n, fz, fzs, fzO, wipeD, dIx_l, dIx_t, gNl_1, csK_1, gCs_1, gTu_1, itemsL_1, itemsT_1, mRng_1, mRng_2, dTup_1, dLst_1, setSlot_1, setK_1, gNm_1, dLen_l, dLen_t, dTuple_l, dTuple_t, dList_l, dList_t, oNo_1, oK_1, slK_1, slK1_1, slK2_1, dCut_l, dCut_t, isi_bool_bool, isi_bool_int, isi_bool_str, isi_bool_tuple, isi_bool_list, isi_int_bool, isi_int_int, isi_int_str, isi_int_tuple, isi_int_list, isi_str_bool, isi_str_int, isi_str_str, isi_str_tuple, isi_str_list, isi_tuple_bool, isi_tuple_int, isi_tuple_str, isi_tuple_tuple, isi_tuple_list, isi_list_bool, isi_list_int, isi_list_str, isi_list_tuple, isi_list_list, isi_nonetype_bool, isi_nonetype_int, isi_nonetype_str, isi_nonetype_tuple, isi_nonetype_list, isi_T, encG, hn0]
    exact Leaf.mk ⟨rfl, W1, hb1, hW1, hSL, fun c h => hS1 c h⟩
  | cons c S2 =>
    have hcc := hS c (hS1 c (by simp))
    have e2 : encG (c :: S2).reverse = encG S2.reverse ++ [tC [c]] := by simp [encG]
    rw [e2]
    have hGl : lays 5 (encG S2.reverse ++ [tC [c]]) = true := by
      have h5 : lays 5 (encG (c :: S2).reverse) = true := lay_ch fun x hx => by
        have := hS x (hS1 x (List.mem_reverse.mp hx))
        unfold opC at this
        omega
      rw [e2] at h5; exact h5
    have hn0 := dNe_nil (o := .own) (o2 := .fro) hGl (by decide)
    obtain ⟨GS, hGS⟩ : ∃ GS, encG S2.reverse = GS := ⟨_, rfl⟩
    rw [hGS] at hn0 ⊢
    have hc1 := @clean_C1 [c]
    have hf1 := @fz_C1 [c]
    have en := one_ne op_ofS.2.2.2.1 [c]
    have ee := one_eq op_ofS.2.2.1 [c]
    have hat : L2.atI (GS ++ [tC [c]]) (-1) = some (tC [c]) := by
      have hi : ixN (GS ++ [tC [c]]).length (-1) = some GS.length := by
        unfold ixN
        simp; omega
      unfold L2.atI
      rw [hi]; simp
    have hop : c ≠ 40 → (star = false ∨ c = 42) → ∃ b a N2 w2 w1 W2, N1 = b :: a :: N2 ∧ W1 = w2 :: w1 :: W2 ∧ F__law_reckon [.lst .own (intsD (N2.reverse ++ [a, b])), .lst .own (GS ++ [tC [c]])] = some (.v .non, [some (.lst .own (intsD (N2.reverse ++ [ap c a b]))), some (.lst .own GS)]) ∧ redA star (ap c a b :: N2) S2 = some (N', S') ∧ bndN (ap c a b :: N2) ((w1 + w2) :: W2) := by
      intro q1 q2
      have hoc : opC c := hcc.resolve_left q1
      unfold redA at hr1
      rw [if_pos ⟨q1, q2⟩] at hr1
      match N1, W1, hb1, hW1, hr1 with
      | b :: a :: N2, w2 :: w1 :: W2, hb1, hW1, hr1 =>
        unfold bndN bndN at hb1
        obtain ⟨p1, p2, p3, p5, p6⟩ := hb1
        simp only [List.sum_cons] at hW1
        have hl := (bnd_len p6).2
        refine ⟨b, a, N2, w2, w1, W2, rfl, rfl, ?_, hr1, ap_bnd p3 p1 p5 p2, by omega, p6⟩
        have := reckon_ok N2.reverse S2.reverse a b c hoc (by rw [List.length_reverse]; omega) (dMul_big p3 p1 (by omega) (by omega))
        rw [show encG (S2.reverse ++ [c]) = encG S2.reverse ++ [tC [c]] by simp [encG], hGS] at this
        exact this
    have hSs : ∀ x ∈ S2, x ∈ S := fun x hx => hS1 x (by simp [hx])
    simp [ok_some, ok_none, br_true, br_false, req_true, req_false, okFz_b, dAdd_lst, dAdd_tp, take_nil, take_ex, take_bo, put_nil, put_bo, put_ex, outs, fxOf, ofStr_inj, dAdd_int, dSub_eq, clean, cleans, isN, dDictD_1, itemsS_1, dJoin_1, dStrF_1, dAdd_str, mPairs_nil, mPairs_cons, dMin2_1, dMax2_1, dAbs_1, dIntF_1, dIntF_2, isDic_d, isDic_v, isDic_t, isDic_l, dKey_i, dKey_s, dKx_i, dKx_s, dKin_i, dKin_s, getD_nil, getD_cons, hasK_nil, hasK_cons, putD_eq, mergeD_nil, mergeD_cons, dInF, dFdiv_eq, dMod_eq, dMul_r, dMul_l, dPow_eq, dShr_eq, dLt_eq, dLe_eq, dGt_eq, dGe_eq, dEq_int, dNe_int, dEq_bl, dNe_bl, dEq_str, dNe_str, atI_z, atI_lit, atI_n, ixN_lit, ixN_n, fz, fzs, fzO, wipeD, dIx_l, dIx_t, gNl_1, csK_1, gCs_1, gTu_1, itemsL_1, itemsT_1, mRng_1, mRng_2, dTup_1, dLst_1, setSlot_1, setK_1, gNm_1, dLen_l, dLen_t, dTuple_l, dTuple_t, dList_l, dList_t, oNo_1, oK_1, slK_1, slK1_1, slK2_1, dCut_l, dCut_t, isi_bool_bool, isi_bool_int, isi_bool_str, isi_bool_tuple, isi_bool_list, isi_int_bool, isi_int_int, isi_int_str, isi_int_tuple, isi_int_list, isi_str_bool, isi_str_int, isi_str_str, isi_str_tuple, isi_str_list, isi_tuple_bool, isi_tuple_int, isi_tuple_str, isi_tuple_tuple, isi_tuple_list, isi_list_bool, isi_list_int, isi_list_str, isi_list_tuple, isi_list_list, isi_nonetype_bool, isi_nonetype_int, isi_nonetype_str, isi_nonetype_tuple, isi_nonetype_list, isi_T, hn0, hc1, hf1, en, ee, hstar, hcl, hf4]
    refine okFn_l ?_
    simp [ok_some, ok_none, br_true, br_false, req_true, req_false, okFz_b, dAdd_lst, dAdd_tp, take_nil, take_ex, take_bo, put_nil, put_bo, put_ex, outs, fxOf, ofStr_inj, dAdd_int, dSub_eq, clean, cleans, isN, dDictD_1, itemsS_1, dJoin_1, dStrF_1, dAdd_str, mPairs_nil, mPairs_cons, dMin2_1, dMax2_1, dAbs_1, dIntF_1, dIntF_2, isDic_d, isDic_v, isDic_t, isDic_l, dKey_i, dKey_s, dKx_i, dKx_s, dKin_i, dKin_s, getD_nil, getD_cons, hasK_nil, hasK_cons, putD_eq, mergeD_nil, mergeD_cons, dInF, dFdiv_eq, dMod_eq, dMul_r, dMul_l, dPow_eq, dShr_eq, dLt_eq, dLe_eq, dGt_eq, dGe_eq, dEq_int, dNe_int, dEq_bl, dNe_bl, dEq_str, dNe_str, atI_z, atI_lit, atI_n, ixN_lit, ixN_n, fz, fzs, fzO, wipeD, dIx_l, dIx_t, gNl_1, csK_1, gCs_1, gTu_1, itemsL_1, itemsT_1, mRng_1, mRng_2, dTup_1, dLst_1, setSlot_1, setK_1, gNm_1, dLen_l, dLen_t, dTuple_l, dTuple_t, dList_l, dList_t, oNo_1, oK_1, slK_1, slK1_1, slK2_1, dCut_l, dCut_t, isi_bool_bool, isi_bool_int, isi_bool_str, isi_bool_tuple, isi_bool_list, isi_int_bool, isi_int_int, isi_int_str, isi_int_tuple, isi_int_list, isi_str_bool, isi_str_int, isi_str_str, isi_str_tuple, isi_str_list, isi_tuple_bool, isi_tuple_int, isi_tuple_str, isi_tuple_tuple, isi_tuple_list, isi_list_bool, isi_list_int, isi_list_str, isi_list_tuple, isi_list_list, isi_nonetype_bool, isi_nonetype_int, isi_nonetype_str, isi_nonetype_tuple, isi_nonetype_list, isi_T, hat, hc1, hf1, en, ee, hstar, hcl, hf4]
    refine br_mk (fun h40 => ?_) (fun h40 => ?_)
    · have h40 : c ≠ 40 := by simpa using h40
      simp [ok_some, ok_none, br_true, br_false, req_true, req_false, okFz_b, dAdd_lst, dAdd_tp, take_nil, take_ex, take_bo, put_nil, put_bo, put_ex, outs, fxOf, ofStr_inj, dAdd_int, dSub_eq, clean, cleans, isN, dDictD_1, itemsS_1, dJoin_1, dStrF_1, dAdd_str, mPairs_nil, mPairs_cons, dMin2_1, dMax2_1, dAbs_1, dIntF_1, dIntF_2, isDic_d, isDic_v, isDic_t, isDic_l, dKey_i, dKey_s, dKx_i, dKx_s, dKin_i, dKin_s, getD_nil, getD_cons, hasK_nil, hasK_cons, putD_eq, mergeD_nil, mergeD_cons, dInF, dFdiv_eq, dMod_eq, dMul_r, dMul_l, dPow_eq, dShr_eq, dLt_eq, dLe_eq, dGt_eq, dGe_eq, dEq_int, dNe_int, dEq_bl, dNe_bl, dEq_str, dNe_str, atI_z, atI_lit, atI_n, ixN_lit, ixN_n, fz, fzs, fzO, wipeD, dIx_l, dIx_t, gNl_1, csK_1, gCs_1, gTu_1, itemsL_1, itemsT_1, mRng_1, mRng_2, dTup_1, dLst_1, setSlot_1, setK_1, gNm_1, dLen_l, dLen_t, dTuple_l, dTuple_t, dList_l, dList_t, oNo_1, oK_1, slK_1, slK1_1, slK2_1, dCut_l, dCut_t, isi_bool_bool, isi_bool_int, isi_bool_str, isi_bool_tuple, isi_bool_list, isi_int_bool, isi_int_int, isi_int_str, isi_int_tuple, isi_int_list, isi_str_bool, isi_str_int, isi_str_str, isi_str_tuple, isi_str_list, isi_tuple_bool, isi_tuple_int, isi_tuple_str, isi_tuple_tuple, isi_tuple_list, isi_list_bool, isi_list_int, isi_list_str, isi_list_tuple, isi_list_list, isi_nonetype_bool, isi_nonetype_int, isi_nonetype_str, isi_nonetype_tuple, isi_nonetype_list, isi_T, hat, hc1, hf1, en, ee, hstar, hcl, hf4]
      refine br_mk (fun hst => ?_) (fun hst => ?_)
      · obtain ⟨b, a, N2, w2, w1, W2, rfl, rfl, eR, hr2, hb2⟩ := hop h40 (.inl (by simpa using hst))
        simp [ok_some, ok_none, br_true, br_false, req_true, req_false, okFz_b, dAdd_lst, dAdd_tp, take_nil, take_ex, take_bo, put_nil, put_bo, put_ex, outs, fxOf, ofStr_inj, dAdd_int, dSub_eq, clean, cleans, isN, dDictD_1, itemsS_1, dJoin_1, dStrF_1, dAdd_str, mPairs_nil, mPairs_cons, dMin2_1, dMax2_1, dAbs_1, dIntF_1, dIntF_2, isDic_d, isDic_v, isDic_t, isDic_l, dKey_i, dKey_s, dKx_i, dKx_s, dKin_i, dKin_s, getD_nil, getD_cons, hasK_nil, hasK_cons, putD_eq, mergeD_nil, mergeD_cons, dInF, dFdiv_eq, dMod_eq, dMul_r, dMul_l, dPow_eq, dShr_eq, dLt_eq, dLe_eq, dGt_eq, dGe_eq, dEq_int, dNe_int, dEq_bl, dNe_bl, dEq_str, dNe_str, atI_z, atI_lit, atI_n, ixN_lit, ixN_n, fz, fzs, fzO, wipeD, dIx_l, dIx_t, gNl_1, csK_1, gCs_1, gTu_1, itemsL_1, itemsT_1, mRng_1, mRng_2, dTup_1, dLst_1, setSlot_1, setK_1, gNm_1, dLen_l, dLen_t, dTuple_l, dTuple_t, dList_l, dList_t, oNo_1, oK_1, slK_1, slK1_1, slK2_1, dCut_l, dCut_t, isi_bool_bool, isi_bool_int, isi_bool_str, isi_bool_tuple, isi_bool_list, isi_int_bool, isi_int_int, isi_int_str, isi_int_tuple, isi_int_list, isi_str_bool, isi_str_int, isi_str_str, isi_str_tuple, isi_str_list, isi_tuple_bool, isi_tuple_int, isi_tuple_str, isi_tuple_tuple, isi_tuple_list, isi_list_bool, isi_list_int, isi_list_str, isi_list_tuple, isi_list_list, isi_nonetype_bool, isi_nonetype_int, isi_nonetype_str, isi_nonetype_tuple, isi_nonetype_list, isi_T, hat, hc1, hf1, en, ee, hstar, hcl, hf4, m__law_due_2_0b_0b_0b_0_0, eR]
        refine Leaf.mk ⟨S2.length, by simp, ap c a b :: N2, S2, (w1 + w2) :: W2, by rw [← hGS]; simp, rfl, hr2, hb2, by simp at hW1 ⊢; omega, by simp at hSL; omega, hSs⟩
      · have hst : star = true := by simpa using hst
        simp [ok_some, ok_none, br_true, br_false, req_true, req_false, okFz_b, dAdd_lst, dAdd_tp, take_nil, take_ex, take_bo, put_nil, put_bo, put_ex, outs, fxOf, ofStr_inj, dAdd_int, dSub_eq, clean, cleans, isN, dDictD_1, itemsS_1, dJoin_1, dStrF_1, dAdd_str, mPairs_nil, mPairs_cons, dMin2_1, dMax2_1, dAbs_1, dIntF_1, dIntF_2, isDic_d, isDic_v, isDic_t, isDic_l, dKey_i, dKey_s, dKx_i, dKx_s, dKin_i, dKin_s, getD_nil, getD_cons, hasK_nil, hasK_cons, putD_eq, mergeD_nil, mergeD_cons, dInF, dFdiv_eq, dMod_eq, dMul_r, dMul_l, dPow_eq, dShr_eq, dLt_eq, dLe_eq, dGt_eq, dGe_eq, dEq_int, dNe_int, dEq_bl, dNe_bl, dEq_str, dNe_str, atI_z, atI_lit, atI_n, ixN_lit, ixN_n, fz, fzs, fzO, wipeD, dIx_l, dIx_t, gNl_1, csK_1, gCs_1, gTu_1, itemsL_1, itemsT_1, mRng_1, mRng_2, dTup_1, dLst_1, setSlot_1, setK_1, gNm_1, dLen_l, dLen_t, dTuple_l, dTuple_t, dList_l, dList_t, oNo_1, oK_1, slK_1, slK1_1, slK2_1, dCut_l, dCut_t, isi_bool_bool, isi_bool_int, isi_bool_str, isi_bool_tuple, isi_bool_list, isi_int_bool, isi_int_int, isi_int_str, isi_int_tuple, isi_int_list, isi_str_bool, isi_str_int, isi_str_str, isi_str_tuple, isi_str_list, isi_tuple_bool, isi_tuple_int, isi_tuple_str, isi_tuple_tuple, isi_tuple_list, isi_list_bool, isi_list_int, isi_list_str, isi_list_tuple, isi_list_list, isi_nonetype_bool, isi_nonetype_int, isi_nonetype_str, isi_nonetype_tuple, isi_nonetype_list, isi_T, hat, hc1, hf1, en, ee, hstar, hcl, hf4]
        refine okFn_l ?_
        simp [ok_some, ok_none, br_true, br_false, req_true, req_false, okFz_b, dAdd_lst, dAdd_tp, take_nil, take_ex, take_bo, put_nil, put_bo, put_ex, outs, fxOf, ofStr_inj, dAdd_int, dSub_eq, clean, cleans, isN, dDictD_1, itemsS_1, dJoin_1, dStrF_1, dAdd_str, mPairs_nil, mPairs_cons, dMin2_1, dMax2_1, dAbs_1, dIntF_1, dIntF_2, isDic_d, isDic_v, isDic_t, isDic_l, dKey_i, dKey_s, dKx_i, dKx_s, dKin_i, dKin_s, getD_nil, getD_cons, hasK_nil, hasK_cons, putD_eq, mergeD_nil, mergeD_cons, dInF, dFdiv_eq, dMod_eq, dMul_r, dMul_l, dPow_eq, dShr_eq, dLt_eq, dLe_eq, dGt_eq, dGe_eq, dEq_int, dNe_int, dEq_bl, dNe_bl, dEq_str, dNe_str, atI_z, atI_lit, atI_n, ixN_lit, ixN_n, fz, fzs, fzO, wipeD, dIx_l, dIx_t, gNl_1, csK_1, gCs_1, gTu_1, itemsL_1, itemsT_1, mRng_1, mRng_2, dTup_1, dLst_1, setSlot_1, setK_1, gNm_1, dLen_l, dLen_t, dTuple_l, dTuple_t, dList_l, dList_t, oNo_1, oK_1, slK_1, slK1_1, slK2_1, dCut_l, dCut_t, isi_bool_bool, isi_bool_int, isi_bool_str, isi_bool_tuple, isi_bool_list, isi_int_bool, isi_int_int, isi_int_str, isi_int_tuple, isi_int_list, isi_str_bool, isi_str_int, isi_str_str, isi_str_tuple, isi_str_list, isi_tuple_bool, isi_tuple_int, isi_tuple_str, isi_tuple_tuple, isi_tuple_list, isi_list_bool, isi_list_int, isi_list_str, isi_list_tuple, isi_list_list, isi_nonetype_bool, isi_nonetype_int, isi_nonetype_str, isi_nonetype_tuple, isi_nonetype_list, isi_T, hat, hc1, hf1, en, ee, hstar, hcl, hf4]
        refine br_mk (fun h42 => ?_) (fun h42 => ?_)
        · have h42 : c = 42 := by simpa using h42
          obtain ⟨b, a, N2, w2, w1, W2, rfl, rfl, eR, hr2, hb2⟩ := hop h40 (.inr h42)
          simp [ok_some, ok_none, br_true, br_false, req_true, req_false, okFz_b, dAdd_lst, dAdd_tp, take_nil, take_ex, take_bo, put_nil, put_bo, put_ex, outs, fxOf, ofStr_inj, dAdd_int, dSub_eq, clean, cleans, isN, dDictD_1, itemsS_1, dJoin_1, dStrF_1, dAdd_str, mPairs_nil, mPairs_cons, dMin2_1, dMax2_1, dAbs_1, dIntF_1, dIntF_2, isDic_d, isDic_v, isDic_t, isDic_l, dKey_i, dKey_s, dKx_i, dKx_s, dKin_i, dKin_s, getD_nil, getD_cons, hasK_nil, hasK_cons, putD_eq, mergeD_nil, mergeD_cons, dInF, dFdiv_eq, dMod_eq, dMul_r, dMul_l, dPow_eq, dShr_eq, dLt_eq, dLe_eq, dGt_eq, dGe_eq, dEq_int, dNe_int, dEq_bl, dNe_bl, dEq_str, dNe_str, atI_z, atI_lit, atI_n, ixN_lit, ixN_n, fz, fzs, fzO, wipeD, dIx_l, dIx_t, gNl_1, csK_1, gCs_1, gTu_1, itemsL_1, itemsT_1, mRng_1, mRng_2, dTup_1, dLst_1, setSlot_1, setK_1, gNm_1, dLen_l, dLen_t, dTuple_l, dTuple_t, dList_l, dList_t, oNo_1, oK_1, slK_1, slK1_1, slK2_1, dCut_l, dCut_t, isi_bool_bool, isi_bool_int, isi_bool_str, isi_bool_tuple, isi_bool_list, isi_int_bool, isi_int_int, isi_int_str, isi_int_tuple, isi_int_list, isi_str_bool, isi_str_int, isi_str_str, isi_str_tuple, isi_str_list, isi_tuple_bool, isi_tuple_int, isi_tuple_str, isi_tuple_tuple, isi_tuple_list, isi_list_bool, isi_list_int, isi_list_str, isi_list_tuple, isi_list_list, isi_nonetype_bool, isi_nonetype_int, isi_nonetype_str, isi_nonetype_tuple, isi_nonetype_list, isi_T, hat, hc1, hf1, en, ee, hstar, hcl, hf4, m__law_due_2_0b_0b_0b_0_0, eR]
          refine Leaf.mk ⟨S2.length, by simp, ap c a b :: N2, S2, (w1 + w2) :: W2, by rw [← hGS]; simp, rfl, hr2, hb2, by simp at hW1 ⊢; omega, by simp at hSL; omega, hSs⟩
        · have h42 : c ≠ 42 := by simpa using h42
          unfold redA at hr1
          rw [if_neg (by simp [hst, h42])] at hr1
          cases hr1
          simp [ok_some, ok_none, br_true, br_false, req_true, req_false, okFz_b, dAdd_lst, dAdd_tp, take_nil, take_ex, take_bo, put_nil, put_bo, put_ex, outs, fxOf, ofStr_inj, dAdd_int, dSub_eq, clean, cleans, isN, dDictD_1, itemsS_1, dJoin_1, dStrF_1, dAdd_str, mPairs_nil, mPairs_cons, dMin2_1, dMax2_1, dAbs_1, dIntF_1, dIntF_2, isDic_d, isDic_v, isDic_t, isDic_l, dKey_i, dKey_s, dKx_i, dKx_s, dKin_i, dKin_s, getD_nil, getD_cons, hasK_nil, hasK_cons, putD_eq, mergeD_nil, mergeD_cons, dInF, dFdiv_eq, dMod_eq, dMul_r, dMul_l, dPow_eq, dShr_eq, dLt_eq, dLe_eq, dGt_eq, dGe_eq, dEq_int, dNe_int, dEq_bl, dNe_bl, dEq_str, dNe_str, atI_z, atI_lit, atI_n, ixN_lit, ixN_n, fz, fzs, fzO, wipeD, dIx_l, dIx_t, gNl_1, csK_1, gCs_1, gTu_1, itemsL_1, itemsT_1, mRng_1, mRng_2, dTup_1, dLst_1, setSlot_1, setK_1, gNm_1, dLen_l, dLen_t, dTuple_l, dTuple_t, dList_l, dList_t, oNo_1, oK_1, slK_1, slK1_1, slK2_1, dCut_l, dCut_t, isi_bool_bool, isi_bool_int, isi_bool_str, isi_bool_tuple, isi_bool_list, isi_int_bool, isi_int_int, isi_int_str, isi_int_tuple, isi_int_list, isi_str_bool, isi_str_int, isi_str_str, isi_str_tuple, isi_str_list, isi_tuple_bool, isi_tuple_int, isi_tuple_str, isi_tuple_tuple, isi_tuple_list, isi_list_bool, isi_list_int, isi_list_str, isi_list_tuple, isi_list_list, isi_nonetype_bool, isi_nonetype_int, isi_nonetype_str, isi_nonetype_tuple, isi_nonetype_list, isi_T]
          exact Leaf.mk ⟨by rw [e2, hGS], W1, hb1, hW1, hSL, hS1⟩
    · have h40 : c = 40 := by simpa using h40
      unfold redA at hr1
      rw [if_neg (by simp [h40])] at hr1
      cases hr1
      simp [ok_some, ok_none, br_true, br_false, req_true, req_false, okFz_b, dAdd_lst, dAdd_tp, take_nil, take_ex, take_bo, put_nil, put_bo, put_ex, outs, fxOf, ofStr_inj, dAdd_int, dSub_eq, clean, cleans, isN, dDictD_1, itemsS_1, dJoin_1, dStrF_1, dAdd_str, mPairs_nil, mPairs_cons, dMin2_1, dMax2_1, dAbs_1, dIntF_1, dIntF_2, isDic_d, isDic_v, isDic_t, isDic_l, dKey_i, dKey_s, dKx_i, dKx_s, dKin_i, dKin_s, getD_nil, getD_cons, hasK_nil, hasK_cons, putD_eq, mergeD_nil, mergeD_cons, dInF, dFdiv_eq, dMod_eq, dMul_r, dMul_l, dPow_eq, dShr_eq, dLt_eq, dLe_eq, dGt_eq, dGe_eq, dEq_int, dNe_int, dEq_bl, dNe_bl, dEq_str, dNe_str, atI_z, atI_lit, atI_n, ixN_lit, ixN_n, fz, fzs, fzO, wipeD, dIx_l, dIx_t, gNl_1, csK_1, gCs_1, gTu_1, itemsL_1, itemsT_1, mRng_1, mRng_2, dTup_1, dLst_1, setSlot_1, setK_1, gNm_1, dLen_l, dLen_t, dTuple_l, dTuple_t, dList_l, dList_t, oNo_1, oK_1, slK_1, slK1_1, slK2_1, dCut_l, dCut_t, isi_bool_bool, isi_bool_int, isi_bool_str, isi_bool_tuple, isi_bool_list, isi_int_bool, isi_int_int, isi_int_str, isi_int_tuple, isi_int_list, isi_str_bool, isi_str_int, isi_str_str, isi_str_tuple, isi_str_list, isi_tuple_bool, isi_tuple_int, isi_tuple_str, isi_tuple_tuple, isi_tuple_list, isi_list_bool, isi_list_int, isi_list_str, isi_list_tuple, isi_list_list, isi_nonetype_bool, isi_nonetype_int, isi_nonetype_str, isi_nonetype_tuple, isi_nonetype_list, isi_T]
      exact Leaf.mk ⟨by rw [e2, hGS], W1, hb1, hW1, hSL, hS1⟩
theorem in_C (l : List Nat) (o : O) (ns : List (List Nat)) : dIn (tC l) (.lst o (ns.map tC)) = some (.v (.bl (decide (l ∈ ns)))) := by
  unfold dIn dInB
  simp only [flat_C]
  have e : flatD (tC l) = some (.str ⟨l.toArray⟩) := rfl
  rw [e]
  simp only [Option.map_some]
  have : inV (.str ⟨l.toArray⟩) (ns.map fun l => V.str ⟨l.toArray⟩) = decide (l ∈ ns) := by
    rw [Bool.eq_iff_iff, decide_eq_true_iff]
    unfold inV
    rw [List.any_eq_true]
    constructor
    · rintro ⟨x, hx, h⟩
      obtain ⟨m, hm, rfl⟩ := List.mem_map.mp hx
      have : (⟨m.toArray⟩ : Str) = ⟨l.toArray⟩ := by simpa [eqV] using h
      rw [tC_inj] at this; subst this; exact hm
    · intro h
      exact ⟨_, List.mem_map.mpr ⟨l, h, rfl⟩, by simp [eqV]⟩
  rw [this]
theorem nin_C (l : List Nat) (o : O) (ns : List (List Nat)) : dNin (tC l) (.lst o (ns.map tC)) = some (.v (.bl (!decide (l ∈ ns)))) := by
  have h := in_C l o ns
  unfold dIn at h
  unfold dNin
  cases hb : dInB (tC l) (.lst o (ns.map tC)) with
  | none => rw [hb] at h; cases h
  | some b => rw [hb] at h; simp at h; subst h; rfl
theorem four_eq : (D.lst O.own [tS "+", tS "-", tS "*", tS ")"]) = .lst .own ([[43], [45], [42], [41]].map tC) := by
  have h := op_ofS
  show D.lst O.own [.v (.str (Str.ofString "+")), .v (.str (Str.ofString "-")), .v (.str (Str.ofString "*")), .v (.str (Str.ofString ")"))] = _
  rw [h.1, h.2.1, h.2.2.1, h.2.2.2.2]; rfl
def kN (l : List Nat) : Key := .inr ⟨l.toArray⟩
theorem kN_inj {a b : List Nat} : kN a = kN b ↔ a = b := by
  unfold kN
  rw [Sum.inr.injEq, tC_inj]
theorem dKey_C {l : List Nat} : dKey (tC l) = some (kN l) := nrfl
theorem hasK_N (ks : List (List Nat)) (m : List Nat) : hasK (ks.map kN) (kN m) = decide (m ∈ ks) := by
  simp only [hasK]
  refine decide_eq_decide.mpr ?_
  rw [List.mem_map]
  exact ⟨fun ⟨p, hp, e⟩ => kN_inj.mp e ▸ hp, fun h => ⟨m, h, rfl⟩⟩
theorem getD_map {MS : List (List Nat)} {g : List Nat → D} {m : List Nat} (h : m ∈ MS) : getD_ (MS.map kN) (MS.map g) (kN m) = some (g m) := by
  induction MS with
  | nil => cases h
  | cons x MS ih =>
    show (if kN x = kN m then some (g x) else getD_ _ _ (kN m)) = _
    by_cases e : x = m
    · rw [if_pos (by rw [e]), e]
    · rw [if_neg (fun z => e (kN_inj.mp z))]
      exact ih ((List.mem_cons.mp h).resolve_left fun z => e z.symm)
/-- a step of the machine, as the law takes it -/
def tkOk : Tk → Prop
  | .op c => opC c
  | .num n => n < 1000
  | .nm l => l = [97] ∨ l = [98, 98] ∨ l = [99]
  | _ => True
def g3 (x y z : Int) (l : List Nat) : Int := if l = [97] then x else if l = [98, 98] then y else z
abbrev nm3 : List (List Nat) := [[97], [98, 98], [99]]
def gD3 (x y z : Int) : D := .dic .own (nm3.map kN) (nm3.map fun l => tI (g3 x y z l))
theorem gD_in (x y z : Int) (l : List Nat) : dKin true (gD3 x y z) (tC l) = some (.v (.bl (decide (l ∈ nm3)))) := by
  unfold dKin gD3
  simp only [dKey_C, hasK_N, if_true]
theorem gD_get (x y z : Int) {l : List Nat} (h : l ∈ nm3) : dKx (gD3 x y z) (tC l) = some (tI (g3 x y z l)) := by
  unfold dKx gD3
  simp only [dKey_C]
  exact getD_map (MS := nm3) (g := fun l => tI (g3 x y z l)) h
theorem step_ok (x y z : Int) (hx : x.natAbs ≤ 2 ^ 50 ∧ y.natAbs ≤ 2 ^ 50 ∧ z.natAbs ≤ 2 ^ 50) (x0 : Option D) (t : Tk) (ht : tkOk t) (N : List Int) (S : List Nat) (N' : List Int) (S' : List Nat) (W : List Nat) (hb : bndN N W) (hW : W.sum ≤ 62) (hS : ∀ c ∈ S, c = 40 ∨ opC c) (hSl : S.length ≤ 900) (h : syS (g3 x y z) N S t = some (N', S')) :
    @Ok _ (m__law_due_2_0 [x0, some (gD3 x y z), some (.lst .own (intsD N.reverse)), some (.lst .own (encG S.reverse)), some (tC (sgT t))]) ⟨(fun o => @Leaf _ o ⟨fun o => (∃ x4, o = .nx [x0, some (gD3 x y z), some (.lst .own (intsD N'.reverse)), some (.lst .own (encG S'.reverse)), x4] ∧ ∃ W', bndN N' W' ∧ W'.sum ≤ W.sum + 1 ∧ S'.length ≤ S.length + 1 ∧ ∀ c ∈ S', c ∈ S ∨ c = 40 ∨ opC c)⟩)⟩ := by
  have hNl := bnd_len hb
  have hIl : (intsD N.reverse).length < 10000000 := by simp [intsD]; omega
  have hGl : (encG S.reverse).length < 10000000 := by simp [encG]; omega
  have hc4 := @clean_C1 (sgT t)
  have hf4 := @fz_C1 (sgT t)
  have e40 := one_eq op_ofS.2.2.2.1 (sgT t)
  cases t with
  | lp =>
    unfold syS at h
    cases h
    have e40 : dEq (tC [40]) (tS "(") = some (.v (.bl true)) := e40
    have hc4 := @clean_C1 [40]
    unfold sgT
    simp [ok_some, ok_none, br_true, br_false, req_true, req_false, okFz_b, dAdd_lst, dAdd_tp, take_nil, take_ex, take_bo, put_nil, put_bo, put_ex, outs, fxOf, ofStr_inj, dAdd_int, dSub_eq, clean, cleans, isN, dDictD_1, itemsS_1, dJoin_1, dStrF_1, dAdd_str, mPairs_nil, mPairs_cons, dMin2_1, dMax2_1, dAbs_1, dIntF_1, dIntF_2, isDic_d, isDic_v, isDic_t, isDic_l, dKey_i, dKey_s, dKx_i, dKx_s, dKin_i, dKin_s, getD_nil, getD_cons, hasK_nil, hasK_cons, putD_eq, mergeD_nil, mergeD_cons, dInF, dFdiv_eq, dMod_eq, dMul_r, dMul_l, dPow_eq, dShr_eq, dLt_eq, dLe_eq, dGt_eq, dGe_eq, dEq_int, dNe_int, dEq_bl, dNe_bl, dEq_str, dNe_str, atI_z, atI_lit, atI_n, ixN_lit, ixN_n, fz, fzs, fzO, wipeD, dIx_l, dIx_t, gNl_1, csK_1, gCs_1, gTu_1, itemsL_1, itemsT_1, mRng_1, mRng_2, dTup_1, dLst_1, setSlot_1, setK_1, gNm_1, dLen_l, dLen_t, dTuple_l, dTuple_t, dList_l, dList_t, oNo_1, oK_1, slK_1, slK1_1, slK2_1, dCut_l, dCut_t, isi_bool_bool, isi_bool_int, isi_bool_str, isi_bool_tuple, isi_bool_list, isi_int_bool, isi_int_int, isi_int_str, isi_int_tuple, isi_int_list, isi_str_bool, isi_str_int, isi_str_str, isi_str_tuple, isi_str_list, isi_tuple_bool, isi_tuple_int, isi_tuple_str, isi_tuple_tuple, isi_tuple_list, isi_list_bool, isi_list_int, isi_list_str, isi_list_tuple, isi_list_list, isi_nonetype_bool, isi_nonetype_int, isi_nonetype_str, isi_nonetype_tuple, isi_nonetype_list, isi_T, m__law_due_2_0, m__law_due_2_0_0, e40, hc4, hGl]
    exact Leaf.mk ⟨none, by simp [encG], W, hb, by omega, by simp, fun c hc => by
      rcases List.mem_cons.mp hc with h | h
      · exact .inr (.inl h)
      · exact .inl h⟩
  | num n =>
    unfold syS at h
    cases h
    have hp := numP_run n (List.mem_range.mpr ht)
    unfold numP at hp
    simp only [Bool.and_eq_true, decide_eq_true_eq] at hp
    obtain ⟨⟨p1, p2⟩, p3⟩ := hp
    have hin := int_plain p1
    rw [p3] at hin
    obtain ⟨c, l', hl, hc⟩ := plain_hd p1
    have hdc := of_decide_eq_true hc
    obtain ⟨L, hL⟩ : ∃ L, (sN (n : Int)).cps.toList = L := ⟨_, rfl⟩
    have e0 : sgT (.num n) = L := hL
    rw [hL] at hl hin
    rw [e0] at hc4 hf4 e40 ⊢
    have h40 : decide (L = [40]) = false := decide_eq_false (by rw [hl]; simp; omega)
    rw [h40] at e40
    have hki : dKin true (gD3 x y z) (tC L) = some (.v (.bl false)) := by
      rw [gD_in, decide_eq_false]
      rw [hl]; simp; omega
    have hni : dNin (tC L) (.lst .own ([[43], [45], [42], [41]].map tC)) = some (.v (.bl true)) := by
      rw [nin_C, decide_eq_false]; rfl
      rw [hl]; simp; omega
    rw [← four_eq] at hni
    have hDd : isDic (some (some (gD3 x y z))) = true := rfl
    have hcd : clean (gD3 x y z) = false := rfl
    simp [ok_some, ok_none, br_true, br_false, req_true, req_false, okFz_b, dAdd_lst, dAdd_tp, take_nil, take_ex, take_bo, put_nil, put_bo, put_ex, outs, fxOf, ofStr_inj, dAdd_int, dSub_eq, clean, cleans, isN, dDictD_1, itemsS_1, dJoin_1, dStrF_1, dAdd_str, mPairs_nil, mPairs_cons, dMin2_1, dMax2_1, dAbs_1, dIntF_1, dIntF_2, isDic_d, isDic_v, isDic_t, isDic_l, dKey_i, dKey_s, dKx_i, dKx_s, dKin_i, dKin_s, getD_nil, getD_cons, hasK_nil, hasK_cons, putD_eq, mergeD_nil, mergeD_cons, dInF, dFdiv_eq, dMod_eq, dMul_r, dMul_l, dPow_eq, dShr_eq, dLt_eq, dLe_eq, dGt_eq, dGe_eq, dEq_int, dNe_int, dEq_bl, dNe_bl, dEq_str, dNe_str, atI_z, atI_lit, atI_n, ixN_lit, ixN_n, fz, fzs, fzO, wipeD, dIx_l, dIx_t, gNl_1, csK_1, gCs_1, gTu_1, itemsL_1, itemsT_1, mRng_1, mRng_2, dTup_1, dLst_1, setSlot_1, setK_1, gNm_1, dLen_l, dLen_t, dTuple_l, dTuple_t, dList_l, dList_t, oNo_1, oK_1, slK_1, slK1_1, slK2_1, dCut_l, dCut_t, isi_bool_bool, isi_bool_int, isi_bool_str, isi_bool_tuple, isi_bool_list, isi_int_bool, isi_int_int, isi_int_str, isi_int_tuple, isi_int_list, isi_str_bool, isi_str_int, isi_str_str, isi_str_tuple, isi_str_list, isi_tuple_bool, isi_tuple_int, isi_tuple_str, isi_tuple_tuple, isi_tuple_list, isi_list_bool, isi_list_int, isi_list_str, isi_list_tuple, isi_list_list, isi_nonetype_bool, isi_nonetype_int, isi_nonetype_str, isi_nonetype_tuple, isi_nonetype_list, isi_T, m__law_due_2_0, m__law_due_2_0b_0, m__law_due_2_0b_0b_0, m__law_due_2_0b_0b_0_0, e40, hc4, hf4, hki, hDd, hcd, hni, hin, hIl]
    have hn50 : ((n : Int)).natAbs ≤ 2 ^ (50 * 1) := by
      have : n < 1000 := ht
      have h2 : (2 : Nat) ^ (50 * 1) = 1125899906842624 := by decide
      omega
    exact Leaf.mk ⟨some (tC L), by simp [intsD], 1 :: W, ⟨hn50, Nat.le_refl _, hb⟩, by simp; omega, by omega, fun c hc => .inl hc⟩
  | nm l =>
    unfold syS at h
    cases h
    have hl : l ∈ nm3 := by
      have : l = [97] ∨ l = [98, 98] ∨ l = [99] := ht
      simpa using this
    have e0 : sgT (.nm l) = l := rfl
    rw [e0] at hc4 hf4 e40 ⊢
    have h40 : decide (l = [40]) = false := decide_eq_false (by
      have : l = [97] ∨ l = [98, 98] ∨ l = [99] := ht
      rcases this with rfl | rfl | rfl <;> decide)
    rw [h40] at e40
    have hki := gD_in x y z l
    rw [decide_eq_true hl] at hki
    have hkg := gD_get x y z hl
    have hDd : isDic (some (some (gD3 x y z))) = true := rfl
    have hcd : clean (gD3 x y z) = false := rfl
    obtain ⟨GD, hGD⟩ : ∃ GD, gD3 x y z = GD := ⟨_, rfl⟩
    rw [hGD] at hki hkg hDd hcd ⊢
    simp [ok_some, ok_none, br_true, br_false, req_true, req_false, okFz_b, dAdd_lst, dAdd_tp, take_nil, take_ex, take_bo, put_nil, put_bo, put_ex, outs, fxOf, ofStr_inj, dAdd_int, dSub_eq, clean, cleans, isN, dDictD_1, itemsS_1, dJoin_1, dStrF_1, dAdd_str, mPairs_nil, mPairs_cons, dMin2_1, dMax2_1, dAbs_1, dIntF_1, dIntF_2, isDic_d, isDic_v, isDic_t, isDic_l, dKey_i, dKey_s, dKx_i, dKx_s, dKin_i, dKin_s, getD_nil, getD_cons, hasK_nil, hasK_cons, putD_eq, mergeD_nil, mergeD_cons, dInF, dFdiv_eq, dMod_eq, dMul_r, dMul_l, dPow_eq, dShr_eq, dLt_eq, dLe_eq, dGt_eq, dGe_eq, dEq_int, dNe_int, dEq_bl, dNe_bl, dEq_str, dNe_str, atI_z, atI_lit, atI_n, ixN_lit, ixN_n, fz, fzs, fzO, wipeD, dIx_l, dIx_t, gNl_1, csK_1, gCs_1, gTu_1, itemsL_1, itemsT_1, mRng_1, mRng_2, dTup_1, dLst_1, setSlot_1, setK_1, gNm_1, dLen_l, dLen_t, dTuple_l, dTuple_t, dList_l, dList_t, oNo_1, oK_1, slK_1, slK1_1, slK2_1, dCut_l, dCut_t, isi_bool_bool, isi_bool_int, isi_bool_str, isi_bool_tuple, isi_bool_list, isi_int_bool, isi_int_int, isi_int_str, isi_int_tuple, isi_int_list, isi_str_bool, isi_str_int, isi_str_str, isi_str_tuple, isi_str_list, isi_tuple_bool, isi_tuple_int, isi_tuple_str, isi_tuple_tuple, isi_tuple_list, isi_list_bool, isi_list_int, isi_list_str, isi_list_tuple, isi_list_list, isi_nonetype_bool, isi_nonetype_int, isi_nonetype_str, isi_nonetype_tuple, isi_nonetype_list, isi_T, m__law_due_2_0, m__law_due_2_0b_0, m__law_due_2_0b_0_0, e40, hc4, hf4, hki, hDd, hcd, hIl]
    refine okFn_l ?_
    simp [ok_some, ok_none, br_true, br_false, req_true, req_false, okFz_b, dAdd_lst, dAdd_tp, take_nil, take_ex, take_bo, put_nil, put_bo, put_ex, outs, fxOf, ofStr_inj, dAdd_int, dSub_eq, clean, cleans, isN, dDictD_1, itemsS_1, dJoin_1, dStrF_1, dAdd_str, mPairs_nil, mPairs_cons, dMin2_1, dMax2_1, dAbs_1, dIntF_1, dIntF_2, isDic_d, isDic_v, isDic_t, isDic_l, dKey_i, dKey_s, dKx_i, dKx_s, dKin_i, dKin_s, getD_nil, getD_cons, hasK_nil, hasK_cons, putD_eq, mergeD_nil, mergeD_cons, dInF, dFdiv_eq, dMod_eq, dMul_r, dMul_l, dPow_eq, dShr_eq, dLt_eq, dLe_eq, dGt_eq, dGe_eq, dEq_int, dNe_int, dEq_bl, dNe_bl, dEq_str, dNe_str, atI_z, atI_lit, atI_n, ixN_lit, ixN_n, fz, fzs, fzO, wipeD, dIx_l, dIx_t, gNl_1, csK_1, gCs_1, gTu_1, itemsL_1, itemsT_1, mRng_1, mRng_2, dTup_1, dLst_1, setSlot_1, setK_1, gNm_1, dLen_l, dLen_t, dTuple_l, dTuple_t, dList_l, dList_t, oNo_1, oK_1, slK_1, slK1_1, slK2_1, dCut_l, dCut_t, isi_bool_bool, isi_bool_int, isi_bool_str, isi_bool_tuple, isi_bool_list, isi_int_bool, isi_int_int, isi_int_str, isi_int_tuple, isi_int_list, isi_str_bool, isi_str_int, isi_str_str, isi_str_tuple, isi_str_list, isi_tuple_bool, isi_tuple_int, isi_tuple_str, isi_tuple_tuple, isi_tuple_list, isi_list_bool, isi_list_int, isi_list_str, isi_list_tuple, isi_list_list, isi_nonetype_bool, isi_nonetype_int, isi_nonetype_str, isi_nonetype_tuple, isi_nonetype_list, isi_T, hkg, hc4, hDd, hcd, hIl]
    refine Leaf.mk ⟨some (tC l), by simp [intsD], 1 :: W, ⟨?_, Nat.le_refl _, hb⟩, by simp; omega, by omega, fun c hc => .inl hc⟩
    rw [Nat.mul_one]
    unfold g3
    split
    · exact hx.1
    · split
      · exact hx.2.1
      · exact hx.2.2
  | rp =>
    unfold syS at h
    cases hr : redA false N S with
    | none => rw [hr] at h; cases h
    | some p =>
      rw [hr] at h
      cases h
      obtain ⟨N1, S1⟩ := p
      have e0 : sgT .rp = [41] := rfl
      rw [e0] at hc4 hf4 e40 ⊢
      have e40 : dEq (tC [41]) (tS "(") = some (.v (.bl false)) := e40
      have hki : dKin true (gD3 x y z) (tC [41]) = some (.v (.bl false)) := gD_in x y z [41]
      have hni : dNin (tC [41]) (.lst .own ([[43], [45], [42], [41]].map tC)) = some (.v (.bl false)) := nin_C [41] .own _
      rw [← four_eq] at hni
      have hne : dNe (tC [41]) (tS "*") = some (.v (.bl true)) := one_ne op_ofS.2.2.1 [41]
      have hne2 : dNe (tC [41]) (tS ")") = some (.v (.bl false)) := one_ne op_ofS.2.2.2.2 [41]
      have hDd : isDic (some (some (gD3 x y z))) = true := rfl
      have hcd : clean (gD3 x y z) = false := rfl
      obtain ⟨GD, hGD⟩ : ∃ GD, gD3 x y z = GD := ⟨_, rfl⟩
      rw [hGD] at hki hDd hcd ⊢
      simp [ok_some, ok_none, br_true, br_false, req_true, req_false, okFz_b, dAdd_lst, dAdd_tp, take_nil, take_ex, take_bo, put_nil, put_bo, put_ex, outs, fxOf, ofStr_inj, dAdd_int, dSub_eq, clean, cleans, isN, dDictD_1, itemsS_1, dJoin_1, dStrF_1, dAdd_str, mPairs_nil, mPairs_cons, dMin2_1, dMax2_1, dAbs_1, dIntF_1, dIntF_2, isDic_d, isDic_v, isDic_t, isDic_l, dKey_i, dKey_s, dKx_i, dKx_s, dKin_i, dKin_s, getD_nil, getD_cons, hasK_nil, hasK_cons, putD_eq, mergeD_nil, mergeD_cons, dInF, dFdiv_eq, dMod_eq, dMul_r, dMul_l, dPow_eq, dShr_eq, dLt_eq, dLe_eq, dGt_eq, dGe_eq, dEq_int, dNe_int, dEq_bl, dNe_bl, dEq_str, dNe_str, atI_z, atI_lit, atI_n, ixN_lit, ixN_n, fz, fzs, fzO, wipeD, dIx_l, dIx_t, gNl_1, csK_1, gCs_1, gTu_1, itemsL_1, itemsT_1, mRng_1, mRng_2, dTup_1, dLst_1, setSlot_1, setK_1, gNm_1, dLen_l, dLen_t, dTuple_l, dTuple_t, dList_l, dList_t, oNo_1, oK_1, slK_1, slK1_1, slK2_1, dCut_l, dCut_t, isi_bool_bool, isi_bool_int, isi_bool_str, isi_bool_tuple, isi_bool_list, isi_int_bool, isi_int_int, isi_int_str, isi_int_tuple, isi_int_list, isi_str_bool, isi_str_int, isi_str_str, isi_str_tuple, isi_str_list, isi_tuple_bool, isi_tuple_int, isi_tuple_str, isi_tuple_tuple, isi_tuple_list, isi_list_bool, isi_list_int, isi_list_str, isi_list_tuple, isi_list_list, isi_nonetype_bool, isi_nonetype_int, isi_nonetype_str, isi_nonetype_tuple, isi_nonetype_list, isi_T, m__law_due_2_0, m__law_due_2_0b_0, m__law_due_2_0b_0b_0, e40, hc4, hf4, hki, hDd, hcd, hni]
      refine (red_loop false x0 (some GD) _ (tC [41]) rfl hne hc4 hf4 N S N1 S1 W hb (by omega) hS (by omega) hr).mono ?_
      rintro o ho
      obtain ⟨rfl, W', b1, b2, b4, b3⟩ := ho.out
      cases S1 with
      | nil =>
        have hn0 : dNe (.lst .own []) (.lst .fro []) = some (.v (.bl false)) := dNe_nil (n := 5) rfl (by decide)
        simp [ok_some, ok_none, br_true, br_false, req_true, req_false, okFz_b, dAdd_lst, dAdd_tp, take_nil, take_ex, take_bo, put_nil, put_bo, put_ex, outs, fxOf, ofStr_inj, dAdd_int, dSub_eq, clean, cleans, isN, dDictD_1, itemsS_1, dJoin_1, dStrF_1, dAdd_str, mPairs_nil, mPairs_cons, dMin2_1, dMax2_1, dAbs_1, dIntF_1, dIntF_2, isDic_d, isDic_v, isDic_t, isDic_l, dKey_i, dKey_s, dKx_i, dKx_s, dKin_i, dKin_s, getD_nil, getD_cons, hasK_nil, hasK_cons, putD_eq, mergeD_nil, mergeD_cons, dInF, dFdiv_eq, dMod_eq, dMul_r, dMul_l, dPow_eq, dShr_eq, dLt_eq, dLe_eq, dGt_eq, dGe_eq, dEq_int, dNe_int, dEq_bl, dNe_bl, dEq_str, dNe_str, atI_z, atI_lit, atI_n, ixN_lit, ixN_n, fz, fzs, fzO, wipeD, dIx_l, dIx_t, gNl_1, csK_1, gCs_1, gTu_1, itemsL_1, itemsT_1, mRng_1, mRng_2, dTup_1, dLst_1, setSlot_1, setK_1, gNm_1, dLen_l, dLen_t, dTuple_l, dTuple_t, dList_l, dList_t, oNo_1, oK_1, slK_1, slK1_1, slK2_1, dCut_l, dCut_t, isi_bool_bool, isi_bool_int, isi_bool_str, isi_bool_tuple, isi_bool_list, isi_int_bool, isi_int_int, isi_int_str, isi_int_tuple, isi_int_list, isi_str_bool, isi_str_int, isi_str_str, isi_str_tuple, isi_str_list, isi_tuple_bool, isi_tuple_int, isi_tuple_str, isi_tuple_tuple, isi_tuple_list, isi_list_bool, isi_list_int, isi_list_str, isi_list_tuple, isi_list_list, isi_nonetype_bool, isi_nonetype_int, isi_nonetype_str, isi_nonetype_tuple, isi_nonetype_list, isi_T, m__law_due_2_0b_0b_0b_1, hne2, hc4, m__law_due_2_0b_0b_0b_1b_0, encG, hn0]
        exact Leaf.mk ⟨_, rfl, W', b1, by omega, by simp, fun c hc => nomatch hc⟩
      | cons c S2 =>
        have e2 : encG (c :: S2).reverse = encG S2.reverse ++ [tC [c]] := by simp [encG]
        have hGl2 : lays 5 (encG S2.reverse ++ [tC [c]]) = true := by
          have h5 : lays 5 (encG (c :: S2).reverse) = true := lay_ch fun x hx => by
            have := hS x (b3 x (List.mem_reverse.mp hx))
            unfold opC at this
            omega
          rw [e2] at h5; exact h5
        have hn0 := dNe_nil (o := .own) (o2 := .fro) hGl2 (by decide)
        rw [e2]
        have hc1 := @clean_C1 [c]
        obtain ⟨GS, hGS⟩ : ∃ GS, encG S2.reverse = GS := ⟨_, rfl⟩
        rw [hGS] at hn0 ⊢
        simp [ok_some, ok_none, br_true, br_false, req_true, req_false, okFz_b, dAdd_lst, dAdd_tp, take_nil, take_ex, take_bo, put_nil, put_bo, put_ex, outs, fxOf, ofStr_inj, dAdd_int, dSub_eq, clean, cleans, isN, dDictD_1, itemsS_1, dJoin_1, dStrF_1, dAdd_str, mPairs_nil, mPairs_cons, dMin2_1, dMax2_1, dAbs_1, dIntF_1, dIntF_2, isDic_d, isDic_v, isDic_t, isDic_l, dKey_i, dKey_s, dKx_i, dKx_s, dKin_i, dKin_s, getD_nil, getD_cons, hasK_nil, hasK_cons, putD_eq, mergeD_nil, mergeD_cons, dInF, dFdiv_eq, dMod_eq, dMul_r, dMul_l, dPow_eq, dShr_eq, dLt_eq, dLe_eq, dGt_eq, dGe_eq, dEq_int, dNe_int, dEq_bl, dNe_bl, dEq_str, dNe_str, atI_z, atI_lit, atI_n, ixN_lit, ixN_n, fz, fzs, fzO, wipeD, dIx_l, dIx_t, gNl_1, csK_1, gCs_1, gTu_1, itemsL_1, itemsT_1, mRng_1, mRng_2, dTup_1, dLst_1, setSlot_1, setK_1, gNm_1, dLen_l, dLen_t, dTuple_l, dTuple_t, dList_l, dList_t, oNo_1, oK_1, slK_1, slK1_1, slK2_1, dCut_l, dCut_t, isi_bool_bool, isi_bool_int, isi_bool_str, isi_bool_tuple, isi_bool_list, isi_int_bool, isi_int_int, isi_int_str, isi_int_tuple, isi_int_list, isi_str_bool, isi_str_int, isi_str_str, isi_str_tuple, isi_str_list, isi_tuple_bool, isi_tuple_int, isi_tuple_str, isi_tuple_tuple, isi_tuple_list, isi_list_bool, isi_list_int, isi_list_str, isi_list_tuple, isi_list_list, isi_nonetype_bool, isi_nonetype_int, isi_nonetype_str, isi_nonetype_tuple, isi_nonetype_list, isi_T, m__law_due_2_0b_0b_0b_1, hne2, hc4, m__law_due_2_0b_0b_0b_1b_0, m__law_due_2_0b_0b_0b_1b_0_0, hn0, hc1]
        exact Leaf.mk ⟨_, by rw [← hGS]; rfl, W', b1, by omega, by simp at b4 ⊢; omega, fun x hx => .inl (b3 x (by simp [show x ∈ S2 from hx]))⟩
  | op c =>
    have hoc : opC c := ht
    have h : (redA (decide (c = 42)) N S).map (fun p => (p.1, c :: p.2)) = some (N', S') := h
    cases hr : redA (decide (c = 42)) N S with
    | none => rw [hr] at h; cases h
    | some p =>
      rw [hr] at h
      cases h
      obtain ⟨N1, S1⟩ := p
      have e0 : sgT (.op c) = [c] := rfl
      rw [e0] at hc4 hf4 e40 ⊢
      have h40 : decide ([c] = [40]) = false := decide_eq_false (by unfold opC at hoc; simp; omega)
      rw [h40] at e40
      have hki := gD_in x y z [c]
      rw [decide_eq_false (by unfold opC at hoc; simp; omega)] at hki
      have hni : dNin (tC [c]) (.lst .own ([[43], [45], [42], [41]].map tC)) = some (.v (.bl false)) := by
        rw [nin_C, decide_eq_true]; rfl
        unfold opC at hoc; simp; omega
      rw [← four_eq] at hni
      have hne := one_ne op_ofS.2.2.1 [c]
      have hdd : decide ([c] = [42]) = decide (c = 42) := decide_eq_decide.mpr (by simp)
      rw [hdd] at hne
      have hne2 := one_ne op_ofS.2.2.2.2 [c]
      rw [decide_eq_false (show ¬ [c] = [41] by unfold opC at hoc; simp; omega)] at hne2
      have hDd : isDic (some (some (gD3 x y z))) = true := rfl
      have hcd : clean (gD3 x y z) = false := rfl
      obtain ⟨GD, hGD⟩ : ∃ GD, gD3 x y z = GD := ⟨_, rfl⟩
      rw [hGD] at hki hDd hcd ⊢
      simp [ok_some, ok_none, br_true, br_false, req_true, req_false, okFz_b, dAdd_lst, dAdd_tp, take_nil, take_ex, take_bo, put_nil, put_bo, put_ex, outs, fxOf, ofStr_inj, dAdd_int, dSub_eq, clean, cleans, isN, dDictD_1, itemsS_1, dJoin_1, dStrF_1, dAdd_str, mPairs_nil, mPairs_cons, dMin2_1, dMax2_1, dAbs_1, dIntF_1, dIntF_2, isDic_d, isDic_v, isDic_t, isDic_l, dKey_i, dKey_s, dKx_i, dKx_s, dKin_i, dKin_s, getD_nil, getD_cons, hasK_nil, hasK_cons, putD_eq, mergeD_nil, mergeD_cons, dInF, dFdiv_eq, dMod_eq, dMul_r, dMul_l, dPow_eq, dShr_eq, dLt_eq, dLe_eq, dGt_eq, dGe_eq, dEq_int, dNe_int, dEq_bl, dNe_bl, dEq_str, dNe_str, atI_z, atI_lit, atI_n, ixN_lit, ixN_n, fz, fzs, fzO, wipeD, dIx_l, dIx_t, gNl_1, csK_1, gCs_1, gTu_1, itemsL_1, itemsT_1, mRng_1, mRng_2, dTup_1, dLst_1, setSlot_1, setK_1, gNm_1, dLen_l, dLen_t, dTuple_l, dTuple_t, dList_l, dList_t, oNo_1, oK_1, slK_1, slK1_1, slK2_1, dCut_l, dCut_t, isi_bool_bool, isi_bool_int, isi_bool_str, isi_bool_tuple, isi_bool_list, isi_int_bool, isi_int_int, isi_int_str, isi_int_tuple, isi_int_list, isi_str_bool, isi_str_int, isi_str_str, isi_str_tuple, isi_str_list, isi_tuple_bool, isi_tuple_int, isi_tuple_str, isi_tuple_tuple, isi_tuple_list, isi_list_bool, isi_list_int, isi_list_str, isi_list_tuple, isi_list_list, isi_nonetype_bool, isi_nonetype_int, isi_nonetype_str, isi_nonetype_tuple, isi_nonetype_list, isi_T, m__law_due_2_0, m__law_due_2_0b_0, m__law_due_2_0b_0b_0, e40, hc4, hf4, hki, hDd, hcd, hni]
      refine (red_loop (decide (c = 42)) x0 (some GD) _ (tC [c]) rfl hne hc4 hf4 N S N1 S1 W hb (by omega) hS (by omega) hr).mono ?_
      rintro o ho
      obtain ⟨rfl, W', b1, b2, b4, b3⟩ := ho.out
      have hS1l : (encG S1.reverse).length < 10000000 := by simp [encG]; omega
      simp [ok_some, ok_none, br_true, br_false, req_true, req_false, okFz_b, dAdd_lst, dAdd_tp, take_nil, take_ex, take_bo, put_nil, put_bo, put_ex, outs, fxOf, ofStr_inj, dAdd_int, dSub_eq, clean, cleans, isN, dDictD_1, itemsS_1, dJoin_1, dStrF_1, dAdd_str, mPairs_nil, mPairs_cons, dMin2_1, dMax2_1, dAbs_1, dIntF_1, dIntF_2, isDic_d, isDic_v, isDic_t, isDic_l, dKey_i, dKey_s, dKx_i, dKx_s, dKin_i, dKin_s, getD_nil, getD_cons, hasK_nil, hasK_cons, putD_eq, mergeD_nil, mergeD_cons, dInF, dFdiv_eq, dMod_eq, dMul_r, dMul_l, dPow_eq, dShr_eq, dLt_eq, dLe_eq, dGt_eq, dGe_eq, dEq_int, dNe_int, dEq_bl, dNe_bl, dEq_str, dNe_str, atI_z, atI_lit, atI_n, ixN_lit, ixN_n, fz, fzs, fzO, wipeD, dIx_l, dIx_t, gNl_1, csK_1, gCs_1, gTu_1, itemsL_1, itemsT_1, mRng_1, mRng_2, dTup_1, dLst_1, setSlot_1, setK_1, gNm_1, dLen_l, dLen_t, dTuple_l, dTuple_t, dList_l, dList_t, oNo_1, oK_1, slK_1, slK1_1, slK2_1, dCut_l, dCut_t, isi_bool_bool, isi_bool_int, isi_bool_str, isi_bool_tuple, isi_bool_list, isi_int_bool, isi_int_int, isi_int_str, isi_int_tuple, isi_int_list, isi_str_bool, isi_str_int, isi_str_str, isi_str_tuple, isi_str_list, isi_tuple_bool, isi_tuple_int, isi_tuple_str, isi_tuple_tuple, isi_tuple_list, isi_list_bool, isi_list_int, isi_list_str, isi_list_tuple, isi_list_list, isi_nonetype_bool, isi_nonetype_int, isi_nonetype_str, isi_nonetype_tuple, isi_nonetype_list, isi_T, m__law_due_2_0b_0b_0b_1, hne2, hc4, m__law_due_2_0b_0b_0b_1_0, hS1l]
      exact Leaf.mk ⟨none, by simp [encG], W', b1, by omega, by simp only [List.length_cons]; omega, fun x hx => by
        rcases List.mem_cons.mp hx with h | h
        · exact .inr (.inr (by rw [h]; exact hoc))
        · exact .inl (b3 x h)⟩
end My
set_option exponentiation.threshold 10000
namespace My
open PySem L2 Z
theorem sy_app (g : List Nat → Int) : ∀ (A B : List Tk) (p : List Int × List Nat), sy g (A ++ B) p = (sy g A p).bind (sy g B)
  | [], B, p => rfl
  | t :: A, B, p => by
    show (syS g p.1 p.2 t).bind (sy g (A ++ B)) = ((syS g p.1 p.2 t).bind (sy g A)).bind (sy g B)
    cases syS g p.1 p.2 t with
    | none => rfl
    | some q => exact sy_app g A B q
def encTk (t : Tk) : D := tC (sgT t)
theorem cleans_Tk (T : List Tk) : cleans (T.map encTk) = true := cleans_map fun t _ => @clean_C1 (sgT t)
theorem due_ok (x y z : Int) (hx : x.natAbs ≤ 2 ^ 50 ∧ y.natAbs ≤ 2 ^ 50 ∧ z.natAbs ≤ 2 ^ 50) (T : List Tk) (hT : ∀ t ∈ T, tkOk t) (hTl : T.length ≤ 60) (v : Int) (N1 : List Int) (S1 : List Nat) (h1 : sy (g3 x y z) T ([], []) = some (N1, S1)) (h2 : redA false N1 S1 = some ([v], [])) (o : O) (ho : o = .own ∨ o = .fro) :
    F__law_due [.lst o (T.map encTk), gD3 x y z] = some (tI v, [some (.lst .fro (T.map encTk)), some (gD3 x y z)]) := by
  have hall : sy (g3 x y z) (T ++ [.rp]) ([], []) = some ([v], []) := by
    rw [sy_app, h1]
    show ((redA false N1 S1).map fun p => (p.1, p.2.tail)).bind (sy (g3 x y z) []) = _
    rw [h2]; rfl
  have hcT := cleans_Tk T
  have hfT := fzs_clean hcT
  have hda : dAdd (.lst .fro (T.map encTk)) (.lst .own [tS ")"]) = some (.lst .own ((T ++ [Tk.rp]).map encTk)) := by
    rw [dAdd_lst (by decide) (by decide) (by simp; omega), List.map_append]
    have : tS ")" = encTk .rp := by
      show D.v (.str (Str.ofString ")")) = _
      rw [op_ofS.2.2.2.2]; rfl
    rw [this]; rfl
  apply ok_is
  obtain ⟨GD, hGD⟩ : ∃ GD, gD3 x y z = GD := ⟨_, rfl⟩
  have hfin : ∀ (GD0 : D), GD0 = gD3 x y z → @Ok _ (forL (gNm 4) m__law_due_2_0 ((T ++ [Tk.rp]).map encTk) [some (.lst .fro (T.map encTk)), some GD0, some (.lst .own []), some (.lst .own []), none]) ⟨(fun o => @Leaf _ o ⟨fun o => (∃ x4, o = .nx [some (.lst .fro (T.map encTk)), some GD0, some (.lst .own [tI v]), some (.lst .own []), x4])⟩)⟩ := by
    rintro GD0 rfl
    refine ok_forI encTk (T ++ [.rp]) (fun pre ds => ∃ (N : List Int) (S : List Nat) (W : List Nat) (x4 : Option D), ds = [some (.lst .fro (T.map encTk)), some (gD3 x y z), some (.lst .own (intsD N.reverse)), some (.lst .own (encG S.reverse)), x4] ∧ sy (g3 x y z) pre ([], []) = some (N, S) ∧ bndN N W ∧ W.sum ≤ pre.length ∧ S.length ≤ pre.length ∧ ∀ c ∈ S, c = 40 ∨ opC c) ⟨[], [], [], none, rfl, rfl, trivial, Nat.le_refl _, Nat.le_refl _, fun c h => nomatch h⟩ ?_ ?_
    · rintro pre t rest _ hxx ⟨N, S, W, x4, rfl, hs, hb, hW, hSl, hS⟩
      have hpl : pre.length ≤ 60 := by
        have := congrArg List.length hxx
        simp at this; omega
      have htk : tkOk t := by
        have : t ∈ T ++ [.rp] := by rw [hxx]; simp
        rcases List.mem_append.mp this with h | h
        · exact hT t h
        · rw [List.mem_singleton.mp h]; trivial
      have hst : ∃ N' S', syS (g3 x y z) N S t = some (N', S') := by
        rw [hxx, sy_app, hs] at hall
        have hall : (syS (g3 x y z) N S t).bind (sy (g3 x y z) rest) = some ([v], []) := hall
        cases hq : syS (g3 x y z) N S t with
        | none => rw [hq] at hall; cases hall
        | some p => exact ⟨p.1, p.2, rfl⟩
      obtain ⟨N', S', hq⟩ := hst
      have hcx := @clean_C1 (sgT t)
      unfold encTk
      simp [ok_some, ok_none, br_true, br_false, req_true, req_false, okFz_b, dAdd_lst, dAdd_tp, take_nil, take_ex, take_bo, put_nil, put_bo, put_ex, outs, fxOf, ofStr_inj, dAdd_int, dSub_eq, clean, cleans, isN, dDictD_1, itemsS_1, dJoin_1, dStrF_1, dAdd_str, mPairs_nil, mPairs_cons, dMin2_1, dMax2_1, dAbs_1, dIntF_1, dIntF_2, isDic_d, isDic_v, isDic_t, isDic_l, dKey_i, dKey_s, dKx_i, dKx_s, dKin_i, dKin_s, getD_nil, getD_cons, hasK_nil, hasK_cons, putD_eq, mergeD_nil, mergeD_cons, dInF, dFdiv_eq, dMod_eq, dMul_r, dMul_l, dPow_eq, dShr_eq, dLt_eq, dLe_eq, dGt_eq, dGe_eq, dEq_int, dNe_int, dEq_bl, dNe_bl, dEq_str, dNe_str, atI_z, atI_lit, atI_n, ixN_lit, ixN_n, fz, fzs, fzO, wipeD, dIx_l, dIx_t, gNl_1, csK_1, gCs_1, gTu_1, itemsL_1, itemsT_1, mRng_1, mRng_2, dTup_1, dLst_1, setSlot_1, setK_1, gNm_1, dLen_l, dLen_t, dTuple_l, dTuple_t, dList_l, dList_t, oNo_1, oK_1, slK_1, slK1_1, slK2_1, dCut_l, dCut_t, isi_bool_bool, isi_bool_int, isi_bool_str, isi_bool_tuple, isi_bool_list, isi_int_bool, isi_int_int, isi_int_str, isi_int_tuple, isi_int_list, isi_str_bool, isi_str_int, isi_str_str, isi_str_tuple, isi_str_list, isi_tuple_bool, isi_tuple_int, isi_tuple_str, isi_tuple_tuple, isi_tuple_list, isi_list_bool, isi_list_int, isi_list_str, isi_list_tuple, isi_list_list, isi_nonetype_bool, isi_nonetype_int, isi_nonetype_str, isi_nonetype_tuple, isi_nonetype_list, isi_T, hcx]
      refine (step_ok x y z hx _ t htk N S N' S' W hb (by omega) hS (by omega) hq).mono ?_
      rintro o ho
      obtain ⟨x4', rfl, W', b1, b2, b3, b4⟩ := ho.out
      refine Leaf.mk ⟨N', S', W', x4', rfl, ?_, b1, by rw [List.length_append, List.length_singleton]; omega, by rw [List.length_append, List.length_singleton]; omega, fun c hc => (b4 c hc).elim (hS c) id⟩
      rw [sy_app, hs]
      show (syS (g3 x y z) N S t).bind (sy (g3 x y z) []) = _
      rw [hq]; rfl
    · rintro _ ⟨N, S, W, x4, rfl, hs, hb, hW, hSl, hS⟩
      rw [hall] at hs
      cases hs
      exact Leaf.mk ⟨x4, rfl⟩
  have hfin := hfin GD hGD.symm
  rw [hGD]
  have hcL := cleans_Tk (T ++ [Tk.rp])
  have hfL := fzs_clean hcL
  obtain ⟨TL, hTL⟩ : ∃ TL, (T ++ [Tk.rp]).map encTk = TL := ⟨_, rfl⟩
  rw [hTL] at hda hfin hcL hfL
  rcases ho with rfl | rfl
  all_goals
    simp [ok_some, ok_none, br_true, br_false, req_true, req_false, okFz_b, dAdd_lst, dAdd_tp, take_nil, take_ex, take_bo, put_nil, put_bo, put_ex, outs, fxOf, ofStr_inj, dAdd_int, dSub_eq, clean, cleans, isN, dDictD_1, itemsS_1, dJoin_1, dStrF_1, dAdd_str, mPairs_nil, mPairs_cons, dMin2_1, dMax2_1, dAbs_1, dIntF_1, dIntF_2, isDic_d, isDic_v, isDic_t, isDic_l, dKey_i, dKey_s, dKx_i, dKx_s, dKin_i, dKin_s, getD_nil, getD_cons, hasK_nil, hasK_cons, putD_eq, mergeD_nil, mergeD_cons, dInF, dFdiv_eq, dMod_eq, dMul_r, dMul_l, dPow_eq, dShr_eq, dLt_eq, dLe_eq, dGt_eq, dGe_eq, dEq_int, dNe_int, dEq_bl, dNe_bl, dEq_str, dNe_str, atI_z, atI_lit, atI_n, ixN_lit, ixN_n, fz, fzs, fzO, wipeD, dIx_l, dIx_t, gNl_1, csK_1, gCs_1, gTu_1, itemsL_1, itemsT_1, mRng_1, mRng_2, dTup_1, dLst_1, setSlot_1, setK_1, gNm_1, dLen_l, dLen_t, dTuple_l, dTuple_t, dList_l, dList_t, oNo_1, oK_1, slK_1, slK1_1, slK2_1, dCut_l, dCut_t, isi_bool_bool, isi_bool_int, isi_bool_str, isi_bool_tuple, isi_bool_list, isi_int_bool, isi_int_int, isi_int_str, isi_int_tuple, isi_int_list, isi_str_bool, isi_str_int, isi_str_str, isi_str_tuple, isi_str_list, isi_tuple_bool, isi_tuple_int, isi_tuple_str, isi_tuple_tuple, isi_tuple_list, isi_list_bool, isi_list_int, isi_list_str, isi_list_tuple, isi_list_list, isi_nonetype_bool, isi_nonetype_int, isi_nonetype_str, isi_nonetype_tuple, isi_nonetype_list, isi_T, F__law_due, m__law_due, m__law_due_0, m__law_due_1, m__law_due_2, hcT, hfT, hda, hcL, hfL]
    refine (hfin).mono ?_
    rintro o ho
    obtain ⟨x4, rfl⟩ := ho.out
    simp [ok_some, ok_none, br_true, br_false, req_true, req_false, okFz_b, dAdd_lst, dAdd_tp, take_nil, take_ex, take_bo, put_nil, put_bo, put_ex, outs, fxOf, ofStr_inj, dAdd_int, dSub_eq, clean, cleans, isN, dDictD_1, itemsS_1, dJoin_1, dStrF_1, dAdd_str, mPairs_nil, mPairs_cons, dMin2_1, dMax2_1, dAbs_1, dIntF_1, dIntF_2, isDic_d, isDic_v, isDic_t, isDic_l, dKey_i, dKey_s, dKx_i, dKx_s, dKin_i, dKin_s, getD_nil, getD_cons, hasK_nil, hasK_cons, putD_eq, mergeD_nil, mergeD_cons, dInF, dFdiv_eq, dMod_eq, dMul_r, dMul_l, dPow_eq, dShr_eq, dLt_eq, dLe_eq, dGt_eq, dGe_eq, dEq_int, dNe_int, dEq_bl, dNe_bl, dEq_str, dNe_str, atI_z, atI_lit, atI_n, ixN_lit, ixN_n, fz, fzs, fzO, wipeD, dIx_l, dIx_t, gNl_1, csK_1, gCs_1, gTu_1, itemsL_1, itemsT_1, mRng_1, mRng_2, dTup_1, dLst_1, setSlot_1, setK_1, gNm_1, dLen_l, dLen_t, dTuple_l, dTuple_t, dList_l, dList_t, oNo_1, oK_1, slK_1, slK1_1, slK2_1, dCut_l, dCut_t, isi_bool_bool, isi_bool_int, isi_bool_str, isi_bool_tuple, isi_bool_list, isi_int_bool, isi_int_int, isi_int_str, isi_int_tuple, isi_int_list, isi_str_bool, isi_str_int, isi_str_str, isi_str_tuple, isi_str_list, isi_tuple_bool, isi_tuple_int, isi_tuple_str, isi_tuple_tuple, isi_tuple_list, isi_list_bool, isi_list_int, isi_list_str, isi_list_tuple, isi_list_list, isi_nonetype_bool, isi_nonetype_int, isi_nonetype_str, isi_nonetype_tuple, isi_nonetype_list, isi_T, m__law_due_3, hcT, hfT]
    refine okFn_l ?_
    simp [ok_some, ok_none, br_true, br_false, req_true, req_false, okFz_b, dAdd_lst, dAdd_tp, take_nil, take_ex, take_bo, put_nil, put_bo, put_ex, outs, fxOf, ofStr_inj, dAdd_int, dSub_eq, clean, cleans, isN, dDictD_1, itemsS_1, dJoin_1, dStrF_1, dAdd_str, mPairs_nil, mPairs_cons, dMin2_1, dMax2_1, dAbs_1, dIntF_1, dIntF_2, isDic_d, isDic_v, isDic_t, isDic_l, dKey_i, dKey_s, dKx_i, dKx_s, dKin_i, dKin_s, getD_nil, getD_cons, hasK_nil, hasK_cons, putD_eq, mergeD_nil, mergeD_cons, dInF, dFdiv_eq, dMod_eq, dMul_r, dMul_l, dPow_eq, dShr_eq, dLt_eq, dLe_eq, dGt_eq, dGe_eq, dEq_int, dNe_int, dEq_bl, dNe_bl, dEq_str, dNe_str, atI_z, atI_lit, atI_n, ixN_lit, ixN_n, fz, fzs, fzO, wipeD, dIx_l, dIx_t, gNl_1, csK_1, gCs_1, gTu_1, itemsL_1, itemsT_1, mRng_1, mRng_2, dTup_1, dLst_1, setSlot_1, setK_1, gNm_1, dLen_l, dLen_t, dTuple_l, dTuple_t, dList_l, dList_t, oNo_1, oK_1, slK_1, slK1_1, slK2_1, dCut_l, dCut_t, isi_bool_bool, isi_bool_int, isi_bool_str, isi_bool_tuple, isi_bool_list, isi_int_bool, isi_int_int, isi_int_str, isi_int_tuple, isi_int_list, isi_str_bool, isi_str_int, isi_str_str, isi_str_tuple, isi_str_list, isi_tuple_bool, isi_tuple_int, isi_tuple_str, isi_tuple_tuple, isi_tuple_list, isi_list_bool, isi_list_int, isi_list_str, isi_list_tuple, isi_list_list, isi_nonetype_bool, isi_nonetype_int, isi_nonetype_str, isi_nonetype_tuple, isi_nonetype_list, isi_T, hcT, hfT]
end My
set_option exponentiation.threshold 10000
namespace My
open PySem L2 Z
/-! ### the parts that are drawn -/
theorem stir_ok (cell k : Int) (h0 : 0 ≤ k) (h1 : k ≤ 100) : ∃ r : Int, F__law_stir [tI cell, tI k] = some (tI r, [some (tI cell), some (tI k)]) ∧ 0 ≤ r ∧ r < 300000000 := by
  by_cases hc : 1000000000000000000 ≤ cell
  · have hk : 0 ≤ 28 * k := by omega
    have hs : dShr (tI (cell - 1000000000000000000)) (tI (28 * k)) = some (tI ((cell - 1000000000000000000) / 2 ^ (28 * k).toNat)) := dShr_eq hk
    generalize (cell - 1000000000000000000) / 2 ^ (28 * k).toNat = Q at hs
    refine ⟨Q % 268435456, ?_, by omega, by omega⟩
    have hkb : k < 18446744073709551616 := by omega
    have hkc : -18446744073709551616 < k := by omega
    simp [fnM_k, mSeq_k, mIf_k, mIfE_k, mOp_k, mLook_k, mVar_k, mMove_k, mTst_k, mAnd_k, mOr_k, mNot_k, mAndV_k, mOrV_k, mNotV_k, mNeg_k, mAsg_k, mRet_k, mRetN, mDrop_k, mSkip, mC, mK, mCons_k, mNil, mFn_k, mSetIx_k, mAug_k, mAppend_k, mAsgT_k, mIt_k, mRngA_k, mFor_k, mLc_k, mCall_k, mArgs_nil, mArgs_ex, mArgs_bo, take_nil, take_ex, take_bo, put_nil, put_bo, put_ex, outs, fxOf, ofStr_inj, dAdd_int, dSub_eq, clean, cleans, mIsN_k, mIsNV_k, isN, mPutK_k, mNewK_k, dDictD_1, mFrz_k, orFz_k, fzAt_k, mPar_k, mEnum_k, mZip_k, mLookL_k, mMt_k, itemsS_1, dJoin_1, dStrF_1, dAdd_str, mChn_k, mRev_k, mExtend_k, mPop_k, mClear_k, mLookA_k, mLookR_k, mInV_k, mPairs_nil, mPairs_cons, mDisp_k, dMin2_1, dMax2_1, dAbs_1, dIntF_1, dIntF_2, isDic_d, isDic_v, isDic_t, isDic_k, isDic_l, dKey_i, dKey_s, dKx_i, dKx_s, dKin_i, dKin_s, getD_nil, getD_cons, hasK_nil, hasK_cons, putD_eq, mergeD_nil, mergeD_cons, dInF, dFdiv_eq, dMod_eq, dMul_r, dMul_l, dPow_eq, dShr_eq, dLt_eq, dLe_eq, dGt_eq, dGe_eq, dEq_int, dNe_int, dEq_bl, dNe_bl, dEq_str, dNe_str, atI_z, atI_lit, atI_n, ixN_lit, ixN_n, fz, fzs, fzO, mYes, wipeD, mBrk, mCnt, seqK_1, seqK_2, seqK_3, seqK_4, seqK_5, ifK_1, ifK_2, ifK_3, opK3_1, opK3_2, opK2_1, opK2_2, opK_1, opK_2, lookK3_1, lookK3_2, lookK2_1, lookK2_2, lookK1_1, lookK1_2, lookK_1, lookK_2, varK_1, varK_2, moveK_1, moveK_2, tstK_1, tstK_2, andK_1, andK_2, andK_3, orK_1, orK_2, orK_3, notK_1, notK_2, andVK_1, andVK_2, andVK_3, orVK_1, orVK_2, orVK_3, notVK_1, notVK_2, negK_1, negK_2, asgK_1, asgK_2, retK_1, retK_2, dropK_1, dropK_2, consK2_1, consK2_2, consK_1, consK_2, fnK_1, fnK_2, setIxK3_1, setIxK3_2, setIxK2_1, setIxK2_2, setIxK1_1, setIxK1_2, setIxK0_1, setIxK0_2, setIxK_1, setIxK_2, augK2_1, augK2_2, augK_1, augK_2, appendK1_1, appendK1_2, appendK0_1, appendK0_2, appendK_1, appendK_2, asgTK2_1, asgTK2_2, asgTK_1, asgTK_2, itK2_1, itK2_2, itK_1, itK_2, rngK_1, rngK_2, forK_1, forK_2, turnK_1, turnK_2, turnK_3, turnK_4, turnK_5, turnK0_1, turnK0_2, lcK1_1, lcK1_2, lcK_1, lcK_2, lcT2_1, lcT2_2, lcT1_1, lcT1_2, lcT1_3, lcT0_1, lcT0_2, callK2_1, callK2_2, callK1_1, callK1_2, callK_1, callK_2, argK2_1, argK2_2, argK_1, argK_2, argB_1, argB_2, takeK_1, takeK_2, takeB_1, takeB_2, fnMK_1, fnMK_2, fnMK_3, isNK_1, isNK_2, isNVK_1, isNVK_2, chnK3_1, chnK3_2, chnK2_1, chnK2_2, chnK_1, chnK_2, revK_1, revK_2, extendK1_1, extendK1_2, extendK0_1, extendK0_2, extendK0_3, extendK_1, extendK_2, popK2_1, popK2_2, popK_1, popK_2, clearK_1, clearK_2, lookAK_1, lookAK_2, lookRK2_1, lookRK2_2, lookRK_1, lookRK_2, inVK_1, inVK_2, pairsK4_1, pairsK4_2, pairsK3_1, pairsK3_2, pairsK2_1, pairsK2_2, pairsK_1, pairsK_2, dispK2_1, dispK2_2, dispK_1, dispK_2, mergeK__1, mergeK__2, parK2_1, parK2_2, parK_1, parK_2, enumK_1, enumK_2, zipK_1, zipK_2, lookLK_1, lookLK_2, mtK2_1, mtK2_2, mtK_1, mtK_2, orFzK_1, orFzK_2, fzAtK_1, fzAtK_2, frzK_1, frzK_2, putKK5_1, putKK5_2, putKK4_1, putKK4_2, putKK3_1, putKK3_2, putKK2_1, putKK2_2, putKK1_1, putKK1_2, putKK_1, putKK_2, dIx_l, dIx_t, dIx_k, gNl_1, csK_1, gCs_1, gTu_1, itemsL_1, itemsT_1, mRng_1, mRng_2, dTup_1, dLst_1, setSlot_1, setK_1, gNm_1, dLen_l, dLen_t, dTuple_l, dTuple_t, dList_l, dList_t, oNo_1, oYes_k, oK_1, mSl_k, slK_1, slK1_1, slK2_1, dCut_l, dCut_t, F__law_stir, m__law_stir, hc, ↓hs, hkb, hkc]
  · obtain ⟨A, hA⟩ : ∃ A, (cell + 1013 * k + 1) * 16807 % 2147483647 = A := ⟨_, rfl⟩
    have hA1 : 0 ≤ A ∧ A < 2147483647 := by omega
    obtain ⟨B, hB⟩ : ∃ B, A * A % 2147483629 = B := ⟨_, rfl⟩
    have hB1 : 0 ≤ B ∧ B < 2147483629 := by omega
    refine ⟨B * 39373 % 2147483587 / 8, ?_, by omega, by omega⟩
    have h1 : -18446744073709551616 < A := by omega
    have h2 : A < 18446744073709551616 := by omega
    have h3 : -18446744073709551616 < B := by omega
    have h4 : B < 18446744073709551616 := by omega
    have hkb : k < 18446744073709551616 := by omega
    have hkc : -18446744073709551616 < k := by omega
    simp [fnM_k, mSeq_k, mIf_k, mIfE_k, mOp_k, mLook_k, mVar_k, mMove_k, mTst_k, mAnd_k, mOr_k, mNot_k, mAndV_k, mOrV_k, mNotV_k, mNeg_k, mAsg_k, mRet_k, mRetN, mDrop_k, mSkip, mC, mK, mCons_k, mNil, mFn_k, mSetIx_k, mAug_k, mAppend_k, mAsgT_k, mIt_k, mRngA_k, mFor_k, mLc_k, mCall_k, mArgs_nil, mArgs_ex, mArgs_bo, take_nil, take_ex, take_bo, put_nil, put_bo, put_ex, outs, fxOf, ofStr_inj, dAdd_int, dSub_eq, clean, cleans, mIsN_k, mIsNV_k, isN, mPutK_k, mNewK_k, dDictD_1, mFrz_k, orFz_k, fzAt_k, mPar_k, mEnum_k, mZip_k, mLookL_k, mMt_k, itemsS_1, dJoin_1, dStrF_1, dAdd_str, mChn_k, mRev_k, mExtend_k, mPop_k, mClear_k, mLookA_k, mLookR_k, mInV_k, mPairs_nil, mPairs_cons, mDisp_k, dMin2_1, dMax2_1, dAbs_1, dIntF_1, dIntF_2, isDic_d, isDic_v, isDic_t, isDic_k, isDic_l, dKey_i, dKey_s, dKx_i, dKx_s, dKin_i, dKin_s, getD_nil, getD_cons, hasK_nil, hasK_cons, putD_eq, mergeD_nil, mergeD_cons, dInF, dFdiv_eq, dMod_eq, dMul_r, dMul_l, dPow_eq, dShr_eq, dLt_eq, dLe_eq, dGt_eq, dGe_eq, dEq_int, dNe_int, dEq_bl, dNe_bl, dEq_str, dNe_str, atI_z, atI_lit, atI_n, ixN_lit, ixN_n, fz, fzs, fzO, mYes, wipeD, mBrk, mCnt, seqK_1, seqK_2, seqK_3, seqK_4, seqK_5, ifK_1, ifK_2, ifK_3, opK3_1, opK3_2, opK2_1, opK2_2, opK_1, opK_2, lookK3_1, lookK3_2, lookK2_1, lookK2_2, lookK1_1, lookK1_2, lookK_1, lookK_2, varK_1, varK_2, moveK_1, moveK_2, tstK_1, tstK_2, andK_1, andK_2, andK_3, orK_1, orK_2, orK_3, notK_1, notK_2, andVK_1, andVK_2, andVK_3, orVK_1, orVK_2, orVK_3, notVK_1, notVK_2, negK_1, negK_2, asgK_1, asgK_2, retK_1, retK_2, dropK_1, dropK_2, consK2_1, consK2_2, consK_1, consK_2, fnK_1, fnK_2, setIxK3_1, setIxK3_2, setIxK2_1, setIxK2_2, setIxK1_1, setIxK1_2, setIxK0_1, setIxK0_2, setIxK_1, setIxK_2, augK2_1, augK2_2, augK_1, augK_2, appendK1_1, appendK1_2, appendK0_1, appendK0_2, appendK_1, appendK_2, asgTK2_1, asgTK2_2, asgTK_1, asgTK_2, itK2_1, itK2_2, itK_1, itK_2, rngK_1, rngK_2, forK_1, forK_2, turnK_1, turnK_2, turnK_3, turnK_4, turnK_5, turnK0_1, turnK0_2, lcK1_1, lcK1_2, lcK_1, lcK_2, lcT2_1, lcT2_2, lcT1_1, lcT1_2, lcT1_3, lcT0_1, lcT0_2, callK2_1, callK2_2, callK1_1, callK1_2, callK_1, callK_2, argK2_1, argK2_2, argK_1, argK_2, argB_1, argB_2, takeK_1, takeK_2, takeB_1, takeB_2, fnMK_1, fnMK_2, fnMK_3, isNK_1, isNK_2, isNVK_1, isNVK_2, chnK3_1, chnK3_2, chnK2_1, chnK2_2, chnK_1, chnK_2, revK_1, revK_2, extendK1_1, extendK1_2, extendK0_1, extendK0_2, extendK0_3, extendK_1, extendK_2, popK2_1, popK2_2, popK_1, popK_2, clearK_1, clearK_2, lookAK_1, lookAK_2, lookRK2_1, lookRK2_2, lookRK_1, lookRK_2, inVK_1, inVK_2, pairsK4_1, pairsK4_2, pairsK3_1, pairsK3_2, pairsK2_1, pairsK2_2, pairsK_1, pairsK_2, dispK2_1, dispK2_2, dispK_1, dispK_2, mergeK__1, mergeK__2, parK2_1, parK2_2, parK_1, parK_2, enumK_1, enumK_2, zipK_1, zipK_2, lookLK_1, lookLK_2, mtK2_1, mtK2_2, mtK_1, mtK_2, orFzK_1, orFzK_2, fzAtK_1, fzAtK_2, frzK_1, frzK_2, putKK5_1, putKK5_2, putKK4_1, putKK4_2, putKK3_1, putKK3_2, putKK2_1, putKK2_2, putKK1_1, putKK1_2, putKK_1, putKK_2, dIx_l, dIx_t, dIx_k, gNl_1, csK_1, gCs_1, gTu_1, itemsL_1, itemsT_1, mRng_1, mRng_2, dTup_1, dLst_1, setSlot_1, setK_1, gNm_1, dLen_l, dLen_t, dTuple_l, dTuple_t, dList_l, dList_t, oNo_1, oYes_k, oK_1, mSl_k, slK_1, slK1_1, slK2_1, dCut_l, dCut_t, F__law_stir, m__law_stir, hc, hA, hB, h1, h2, h3, h4, hkb, hkc]
theorem tN_str (n : Nat) (h : n < 1000) : dStrF [tI (n : Int)] = some (tC (sgT (.num n))) := by
  have hl : (n : Int).natAbs.log2 < 1920 := by
    rw [Int.natAbs_natCast]
    by_cases h0 : n = 0
    · subst h0; decide
    · rw [Nat.log2_lt h0]
      have : (2 : Nat) ^ 10 ≤ 2 ^ 1920 := Nat.pow_le_pow_right (by omega) (by omega)
      have h10 : (2 : Nat) ^ 10 = 1024 := by decide
      omega
  show (if (n : Int).natAbs.log2 < 1920 then some (D.v (.str (toString (n : Int)))) else none) = _
  rw [if_pos hl]
  show _ = some (D.v (.str ⟨(sN (n : Int)).cps.toList.toArray⟩))
  rw [Array.toArray_toList]
def leafOk (t : Tk) : Prop := (∃ n, t = .num n ∧ n < 1000) ∨ ∃ l, t = .nm l ∧ (l = [97] ∨ l = [98, 98] ∨ l = [99])
def Q3 (l : List Nat) : Prop := l = [97] ∨ l = [98, 98] ∨ l = [99]
theorem leaf_wf {t : Tk} (h : leafOk t) {d : Nat} {rest : List Tk} (hr : wfO Q3 d rest) : wfA Q3 d (t :: rest) := by
  rcases h with ⟨n, rfl, hn⟩ | ⟨l, rfl, hl⟩
  · unfold wfA; exact ⟨hn, hr⟩
  · unfold wfA
    exact ⟨hl, hr⟩
theorem leaf_tk {t : Tk} (h : leafOk t) : tkOk t := by
  rcases h with ⟨n, rfl, hn⟩ | ⟨l, rfl, hl⟩
  · exact hn
  · exact hl
theorem nmS : tS "a" = encTk (.nm [97]) ∧ tS "bb" = encTk (.nm [98, 98]) ∧ tS "c" = encTk (.nm [99]) := by
  have h : Str.ofString "a" = ⟨#[97]⟩ ∧ Str.ofString "bb" = ⟨#[98, 98]⟩ ∧ Str.ofString "c" = ⟨#[99]⟩ := by decide +kernel
  refine ⟨?_, ?_, ?_⟩
  · show D.v (.str (Str.ofString "a")) = _
    rw [h.1]; rfl
  · show D.v (.str (Str.ofString "bb")) = _
    rw [h.2.1]; rfl
  · show D.v (.str (Str.ofString "c")) = _
    rw [h.2.2]; rfl
theorem leaf_at (r : Int) (n1 n2 : Nat) (h1 : n1 < 1000) (h2 : n2 < 1000) : ∃ t, leafOk t ∧ L2.atI [encTk (.num n1), encTk (.num n2), tS "a", tS "bb", tS "c", tS "a", tS "bb"] (r % 7) = some (encTk t) := by
  have q0 : 0 ≤ r % 7 := Int.emod_nonneg _ (by decide)
  have q1 : r % 7 < 7 := Int.emod_lt_of_pos _ (by decide)
  rw [nmS.1, nmS.2.1, nmS.2.2]
  have : r % 7 = 0 ∨ r % 7 = 1 ∨ r % 7 = 2 ∨ r % 7 = 3 ∨ r % 7 = 4 ∨ r % 7 = 5 ∨ r % 7 = 6 := by omega
  rcases this with h | h | h | h | h | h | h <;> rw [h]
  · exact ⟨_, .inl ⟨n1, rfl, h1⟩, rfl⟩
  · exact ⟨_, .inl ⟨n2, rfl, h2⟩, rfl⟩
  · exact ⟨_, .inr ⟨[97], rfl, .inl rfl⟩, rfl⟩
  · exact ⟨_, .inr ⟨[98, 98], rfl, .inr (.inl rfl)⟩, rfl⟩
  · exact ⟨_, .inr ⟨[99], rfl, .inr (.inr rfl)⟩, rfl⟩
  · exact ⟨_, .inr ⟨[97], rfl, .inl rfl⟩, rfl⟩
  · exact ⟨_, .inr ⟨[98, 98], rfl, .inr (.inl rfl)⟩, rfl⟩
theorem sign_at (r : Int) : ∃ c, opC c ∧ dIx (tS "+-*") (tI (r % 3)) = some (encTk (.op c)) := by
  have q0 : 0 ≤ r % 3 := Int.emod_nonneg _ (by decide)
  have q1 : r % 3 < 3 := Int.emod_lt_of_pos _ (by decide)
  have h : Str.ofString "+-*" = ⟨#[43, 45, 42]⟩ := by decide +kernel
  have : r % 3 = 0 ∨ r % 3 = 1 ∨ r % 3 = 2 := by omega
  show ∃ c, opC c ∧ dIx (.v (.str (Str.ofString "+-*"))) (tI (r % 3)) = some (encTk (.op c))
  rw [h]
  rcases this with h | h | h <;> rw [h]
  · exact ⟨43, .inl rfl, rfl⟩
  · exact ⟨45, .inr (.inl rfl), rfl⟩
  · exact ⟨42, .inr (.inr rfl), rfl⟩
def AwA (d : Nat) (T : List Tk) : Prop := ∀ rest, wfA Q3 d rest → wfA Q3 0 (T ++ rest)
def AwO (d : Nat) (T : List Tk) : Prop := ∀ rest, wfO Q3 d rest → wfA Q3 0 (T ++ rest)
theorem parS : tS "(" = encTk .lp ∧ tS ")" = encTk .rp := by
  refine ⟨?_, ?_⟩
  · show D.v (.str (Str.ofString "(")) = _
    rw [op_ofS.2.2.2.1]; rfl
  · show D.v (.str (Str.ofString ")")) = _
    rw [op_ofS.2.2.2.2]; rfl
theorem open_ok (x0 x3 x5 : Option D) (T : List Tk) (d : Nat) (r : Int) (hr : 0 ≤ r ∧ r < 300000000) (hd : d ≤ 5) (hT : ∀ t ∈ T, tkOk t) (hTl : T.length ≤ 1000) (hA : AwA d T) :
    @Ok _ (m__law_parts_2_1 [x0, some (.lst .own (T.map encTk)), some (tN d), x3, some (tI r), x5]) ⟨(fun o => @Leaf _ o ⟨fun o => (∃ (T' : List Tk) (d' : Nat) (r' : Int), o = .nx [x0, some (.lst .own (T'.map encTk)), some (tN d'), x3, some (tI r'), x5] ∧ (0 ≤ r' ∧ r' < 300000000) ∧ d' ≤ 5 ∧ (∀ t ∈ T', tkOk t) ∧ (T'.length ≤ T.length + 5 ∧ nlf T' = nlf T) ∧ AwA d' T')⟩)⟩ := by
  unfold m__law_parts_2_1
  refine ok_While (fun v ds => ∃ (T' : List Tk) (d' : Nat) (r' : Int), ds = [x0, some (.lst .own (T'.map encTk)), some (tN d'), x3, some (tI r'), x5] ∧ v = 5 - d' ∧ (0 ≤ r' ∧ r' < 300000000) ∧ d' ≤ 5 ∧ (∀ t ∈ T', tkOk t) ∧ (T'.length + d = T.length + d' ∧ nlf T' = nlf T) ∧ AwA d' T') (5 - d) ⟨T, d, r, rfl, rfl, hr, hd, hT, ⟨rfl, rfl⟩, hA⟩ (by omega) ?_
  rintro v _ ⟨T1, d1, r1, rfl, rfl, hr1, hd1, hT1, hl1, hA1⟩
  have hb1 : r1 < 18446744073709551616 ∧ -18446744073709551616 < r1 := by omega
  have hTl : T1.length < 10000000 := by omega
  simp [ok_some, ok_none, br_true, br_false, req_true, req_false, okFz_b, dAdd_lst, dAdd_tp, take_nil, take_ex, take_bo, put_nil, put_bo, put_ex, outs, fxOf, ofStr_inj, dAdd_int, dSub_eq, clean, cleans, isN, dDictD_1, itemsS_1, dJoin_1, dStrF_1, dAdd_str, mPairs_nil, mPairs_cons, dMin2_1, dMax2_1, dAbs_1, dIntF_1, dIntF_2, isDic_d, isDic_v, isDic_t, isDic_l, dKey_i, dKey_s, dKx_i, dKx_s, dKin_i, dKin_s, getD_nil, getD_cons, hasK_nil, hasK_cons, putD_eq, mergeD_nil, mergeD_cons, dInF, dFdiv_eq, dMod_eq, dMul_r, dMul_l, dPow_eq, dShr_eq, dLt_eq, dLe_eq, dGt_eq, dGe_eq, dEq_int, dNe_int, dEq_bl, dNe_bl, dEq_str, dNe_str, atI_z, atI_lit, atI_n, ixN_lit, ixN_n, fz, fzs, fzO, wipeD, dIx_l, dIx_t, gNl_1, csK_1, gCs_1, gTu_1, itemsL_1, itemsT_1, mRng_1, mRng_2, dTup_1, dLst_1, setSlot_1, setK_1, gNm_1, dLen_l, dLen_t, dTuple_l, dTuple_t, dList_l, dList_t, oNo_1, oK_1, slK_1, slK1_1, slK2_1, dCut_l, dCut_t, isi_bool_bool, isi_bool_int, isi_bool_str, isi_bool_tuple, isi_bool_list, isi_int_bool, isi_int_int, isi_int_str, isi_int_tuple, isi_int_list, isi_str_bool, isi_str_int, isi_str_str, isi_str_tuple, isi_str_list, isi_tuple_bool, isi_tuple_int, isi_tuple_str, isi_tuple_tuple, isi_tuple_list, isi_list_bool, isi_list_int, isi_list_str, isi_list_tuple, isi_list_list, isi_nonetype_bool, isi_nonetype_int, isi_nonetype_str, isi_nonetype_tuple, isi_nonetype_list, isi_T, hb1]
  refine br_mk (fun h1 => ?_) (fun h1 => ?_)
  · simp [ok_some, ok_none, br_true, br_false, req_true, req_false, okFz_b, dAdd_lst, dAdd_tp, take_nil, take_ex, take_bo, put_nil, put_bo, put_ex, outs, fxOf, ofStr_inj, dAdd_int, dSub_eq, clean, cleans, isN, dDictD_1, itemsS_1, dJoin_1, dStrF_1, dAdd_str, mPairs_nil, mPairs_cons, dMin2_1, dMax2_1, dAbs_1, dIntF_1, dIntF_2, isDic_d, isDic_v, isDic_t, isDic_l, dKey_i, dKey_s, dKx_i, dKx_s, dKin_i, dKin_s, getD_nil, getD_cons, hasK_nil, hasK_cons, putD_eq, mergeD_nil, mergeD_cons, dInF, dFdiv_eq, dMod_eq, dMul_r, dMul_l, dPow_eq, dShr_eq, dLt_eq, dLe_eq, dGt_eq, dGe_eq, dEq_int, dNe_int, dEq_bl, dNe_bl, dEq_str, dNe_str, atI_z, atI_lit, atI_n, ixN_lit, ixN_n, fz, fzs, fzO, wipeD, dIx_l, dIx_t, gNl_1, csK_1, gCs_1, gTu_1, itemsL_1, itemsT_1, mRng_1, mRng_2, dTup_1, dLst_1, setSlot_1, setK_1, gNm_1, dLen_l, dLen_t, dTuple_l, dTuple_t, dList_l, dList_t, oNo_1, oK_1, slK_1, slK1_1, slK2_1, dCut_l, dCut_t, isi_bool_bool, isi_bool_int, isi_bool_str, isi_bool_tuple, isi_bool_list, isi_int_bool, isi_int_int, isi_int_str, isi_int_tuple, isi_int_list, isi_str_bool, isi_str_int, isi_str_str, isi_str_tuple, isi_str_list, isi_tuple_bool, isi_tuple_int, isi_tuple_str, isi_tuple_tuple, isi_tuple_list, isi_list_bool, isi_list_int, isi_list_str, isi_list_tuple, isi_list_list, isi_nonetype_bool, isi_nonetype_int, isi_nonetype_str, isi_nonetype_tuple, isi_nonetype_list, isi_T, hb1]
    refine br_mk (fun h2 => ?_) (fun h2 => ?_)
    · simp [ok_some, ok_none, br_true, br_false, req_true, req_false, okFz_b, dAdd_lst, dAdd_tp, take_nil, take_ex, take_bo, put_nil, put_bo, put_ex, outs, fxOf, ofStr_inj, dAdd_int, dSub_eq, clean, cleans, isN, dDictD_1, itemsS_1, dJoin_1, dStrF_1, dAdd_str, mPairs_nil, mPairs_cons, dMin2_1, dMax2_1, dAbs_1, dIntF_1, dIntF_2, isDic_d, isDic_v, isDic_t, isDic_l, dKey_i, dKey_s, dKx_i, dKx_s, dKin_i, dKin_s, getD_nil, getD_cons, hasK_nil, hasK_cons, putD_eq, mergeD_nil, mergeD_cons, dInF, dFdiv_eq, dMod_eq, dMul_r, dMul_l, dPow_eq, dShr_eq, dLt_eq, dLe_eq, dGt_eq, dGe_eq, dEq_int, dNe_int, dEq_bl, dNe_bl, dEq_str, dNe_str, atI_z, atI_lit, atI_n, ixN_lit, ixN_n, fz, fzs, fzO, wipeD, dIx_l, dIx_t, gNl_1, csK_1, gCs_1, gTu_1, itemsL_1, itemsT_1, mRng_1, mRng_2, dTup_1, dLst_1, setSlot_1, setK_1, gNm_1, dLen_l, dLen_t, dTuple_l, dTuple_t, dList_l, dList_t, oNo_1, oK_1, slK_1, slK1_1, slK2_1, dCut_l, dCut_t, isi_bool_bool, isi_bool_int, isi_bool_str, isi_bool_tuple, isi_bool_list, isi_int_bool, isi_int_int, isi_int_str, isi_int_tuple, isi_int_list, isi_str_bool, isi_str_int, isi_str_str, isi_str_tuple, isi_str_list, isi_tuple_bool, isi_tuple_int, isi_tuple_str, isi_tuple_tuple, isi_tuple_list, isi_list_bool, isi_list_int, isi_list_str, isi_list_tuple, isi_list_list, isi_nonetype_bool, isi_nonetype_int, isi_nonetype_str, isi_nonetype_tuple, isi_nonetype_list, isi_T, hb1]
      refine br_mk (fun h3 => ?_) (fun h3 => ?_)
      · have hd4 : d1 < 5 := by omega
        have hps : D.v (V.str (Str.ofString "(")) = encTk .lp := parS.1
        simp [ok_some, ok_none, br_true, br_false, req_true, req_false, okFz_b, dAdd_lst, dAdd_tp, take_nil, take_ex, take_bo, put_nil, put_bo, put_ex, outs, fxOf, ofStr_inj, dAdd_int, dSub_eq, clean, cleans, isN, dDictD_1, itemsS_1, dJoin_1, dStrF_1, dAdd_str, mPairs_nil, mPairs_cons, dMin2_1, dMax2_1, dAbs_1, dIntF_1, dIntF_2, isDic_d, isDic_v, isDic_t, isDic_l, dKey_i, dKey_s, dKx_i, dKx_s, dKin_i, dKin_s, getD_nil, getD_cons, hasK_nil, hasK_cons, putD_eq, mergeD_nil, mergeD_cons, dInF, dFdiv_eq, dMod_eq, dMul_r, dMul_l, dPow_eq, dShr_eq, dLt_eq, dLe_eq, dGt_eq, dGe_eq, dEq_int, dNe_int, dEq_bl, dNe_bl, dEq_str, dNe_str, atI_z, atI_lit, atI_n, ixN_lit, ixN_n, fz, fzs, fzO, wipeD, dIx_l, dIx_t, gNl_1, csK_1, gCs_1, gTu_1, itemsL_1, itemsT_1, mRng_1, mRng_2, dTup_1, dLst_1, setSlot_1, setK_1, gNm_1, dLen_l, dLen_t, dTuple_l, dTuple_t, dList_l, dList_t, oNo_1, oK_1, slK_1, slK1_1, slK2_1, dCut_l, dCut_t, isi_bool_bool, isi_bool_int, isi_bool_str, isi_bool_tuple, isi_bool_list, isi_int_bool, isi_int_int, isi_int_str, isi_int_tuple, isi_int_list, isi_str_bool, isi_str_int, isi_str_str, isi_str_tuple, isi_str_list, isi_tuple_bool, isi_tuple_int, isi_tuple_str, isi_tuple_tuple, isi_tuple_list, isi_list_bool, isi_list_int, isi_list_str, isi_list_tuple, isi_list_list, isi_nonetype_bool, isi_nonetype_int, isi_nonetype_str, isi_nonetype_tuple, isi_nonetype_list, isi_T, hb1, m__law_parts_2_1_0, m__law_parts_2_1_1, m__law_parts_2_1_2, hTl]
        refine Leaf.mk ⟨5 - (d1 + 1), by omega, T1 ++ [.lp], d1 + 1, r1 / 4, ?_, rfl, by omega, by omega, fun t ht => ?_, ⟨by have := hl1.1; simp; omega, by rw [nlf_app]; simp only [nlf]; exact hl1.2⟩, fun rest hrest => ?_⟩
        · rw [hps]; simp
        · rcases List.mem_append.mp ht with h | h
          · exact hT1 t h
          · rw [List.mem_singleton.mp h]; trivial
        · rw [List.append_assoc]
          exact hA1 _ (by unfold wfA; exact ⟨by omega, hrest⟩)
      · simp [ok_some, ok_none, br_true, br_false, req_true, req_false, okFz_b, dAdd_lst, dAdd_tp, take_nil, take_ex, take_bo, put_nil, put_bo, put_ex, outs, fxOf, ofStr_inj, dAdd_int, dSub_eq, clean, cleans, isN, dDictD_1, itemsS_1, dJoin_1, dStrF_1, dAdd_str, mPairs_nil, mPairs_cons, dMin2_1, dMax2_1, dAbs_1, dIntF_1, dIntF_2, isDic_d, isDic_v, isDic_t, isDic_l, dKey_i, dKey_s, dKx_i, dKx_s, dKin_i, dKin_s, getD_nil, getD_cons, hasK_nil, hasK_cons, putD_eq, mergeD_nil, mergeD_cons, dInF, dFdiv_eq, dMod_eq, dMul_r, dMul_l, dPow_eq, dShr_eq, dLt_eq, dLe_eq, dGt_eq, dGe_eq, dEq_int, dNe_int, dEq_bl, dNe_bl, dEq_str, dNe_str, atI_z, atI_lit, atI_n, ixN_lit, ixN_n, fz, fzs, fzO, wipeD, dIx_l, dIx_t, gNl_1, csK_1, gCs_1, gTu_1, itemsL_1, itemsT_1, mRng_1, mRng_2, dTup_1, dLst_1, setSlot_1, setK_1, gNm_1, dLen_l, dLen_t, dTuple_l, dTuple_t, dList_l, dList_t, oNo_1, oK_1, slK_1, slK1_1, slK2_1, dCut_l, dCut_t, isi_bool_bool, isi_bool_int, isi_bool_str, isi_bool_tuple, isi_bool_list, isi_int_bool, isi_int_int, isi_int_str, isi_int_tuple, isi_int_list, isi_str_bool, isi_str_int, isi_str_str, isi_str_tuple, isi_str_list, isi_tuple_bool, isi_tuple_int, isi_tuple_str, isi_tuple_tuple, isi_tuple_list, isi_list_bool, isi_list_int, isi_list_str, isi_list_tuple, isi_list_list, isi_nonetype_bool, isi_nonetype_int, isi_nonetype_str, isi_nonetype_tuple, isi_nonetype_list, isi_T]
        exact Leaf.mk ⟨T1, d1, r1, rfl, hr1, hd1, hT1, ⟨by omega, hl1.2⟩, hA1⟩
    · simp [ok_some, ok_none, br_true, br_false, req_true, req_false, okFz_b, dAdd_lst, dAdd_tp, take_nil, take_ex, take_bo, put_nil, put_bo, put_ex, outs, fxOf, ofStr_inj, dAdd_int, dSub_eq, clean, cleans, isN, dDictD_1, itemsS_1, dJoin_1, dStrF_1, dAdd_str, mPairs_nil, mPairs_cons, dMin2_1, dMax2_1, dAbs_1, dIntF_1, dIntF_2, isDic_d, isDic_v, isDic_t, isDic_l, dKey_i, dKey_s, dKx_i, dKx_s, dKin_i, dKin_s, getD_nil, getD_cons, hasK_nil, hasK_cons, putD_eq, mergeD_nil, mergeD_cons, dInF, dFdiv_eq, dMod_eq, dMul_r, dMul_l, dPow_eq, dShr_eq, dLt_eq, dLe_eq, dGt_eq, dGe_eq, dEq_int, dNe_int, dEq_bl, dNe_bl, dEq_str, dNe_str, atI_z, atI_lit, atI_n, ixN_lit, ixN_n, fz, fzs, fzO, wipeD, dIx_l, dIx_t, gNl_1, csK_1, gCs_1, gTu_1, itemsL_1, itemsT_1, mRng_1, mRng_2, dTup_1, dLst_1, setSlot_1, setK_1, gNm_1, dLen_l, dLen_t, dTuple_l, dTuple_t, dList_l, dList_t, oNo_1, oK_1, slK_1, slK1_1, slK2_1, dCut_l, dCut_t, isi_bool_bool, isi_bool_int, isi_bool_str, isi_bool_tuple, isi_bool_list, isi_int_bool, isi_int_int, isi_int_str, isi_int_tuple, isi_int_list, isi_str_bool, isi_str_int, isi_str_str, isi_str_tuple, isi_str_list, isi_tuple_bool, isi_tuple_int, isi_tuple_str, isi_tuple_tuple, isi_tuple_list, isi_list_bool, isi_list_int, isi_list_str, isi_list_tuple, isi_list_list, isi_nonetype_bool, isi_nonetype_int, isi_nonetype_str, isi_nonetype_tuple, isi_nonetype_list, isi_T]
      exact Leaf.mk ⟨T1, d1, r1, rfl, hr1, hd1, hT1, ⟨by omega, hl1.2⟩, hA1⟩
  · simp [ok_some, ok_none, br_true, br_false, req_true, req_false, okFz_b, dAdd_lst, dAdd_tp, take_nil, take_ex, take_bo, put_nil, put_bo, put_ex, outs, fxOf, ofStr_inj, dAdd_int, dSub_eq, clean, cleans, isN, dDictD_1, itemsS_1, dJoin_1, dStrF_1, dAdd_str, mPairs_nil, mPairs_cons, dMin2_1, dMax2_1, dAbs_1, dIntF_1, dIntF_2, isDic_d, isDic_v, isDic_t, isDic_l, dKey_i, dKey_s, dKx_i, dKx_s, dKin_i, dKin_s, getD_nil, getD_cons, hasK_nil, hasK_cons, putD_eq, mergeD_nil, mergeD_cons, dInF, dFdiv_eq, dMod_eq, dMul_r, dMul_l, dPow_eq, dShr_eq, dLt_eq, dLe_eq, dGt_eq, dGe_eq, dEq_int, dNe_int, dEq_bl, dNe_bl, dEq_str, dNe_str, atI_z, atI_lit, atI_n, ixN_lit, ixN_n, fz, fzs, fzO, wipeD, dIx_l, dIx_t, gNl_1, csK_1, gCs_1, gTu_1, itemsL_1, itemsT_1, mRng_1, mRng_2, dTup_1, dLst_1, setSlot_1, setK_1, gNm_1, dLen_l, dLen_t, dTuple_l, dTuple_t, dList_l, dList_t, oNo_1, oK_1, slK_1, slK1_1, slK2_1, dCut_l, dCut_t, isi_bool_bool, isi_bool_int, isi_bool_str, isi_bool_tuple, isi_bool_list, isi_int_bool, isi_int_int, isi_int_str, isi_int_tuple, isi_int_list, isi_str_bool, isi_str_int, isi_str_str, isi_str_tuple, isi_str_list, isi_tuple_bool, isi_tuple_int, isi_tuple_str, isi_tuple_tuple, isi_tuple_list, isi_list_bool, isi_list_int, isi_list_str, isi_list_tuple, isi_list_list, isi_nonetype_bool, isi_nonetype_int, isi_nonetype_str, isi_nonetype_tuple, isi_nonetype_list, isi_T]
    exact Leaf.mk ⟨T1, d1, r1, rfl, hr1, hd1, hT1, ⟨by omega, hl1.2⟩, hA1⟩
theorem close_ok (x0 x3 x5 : Option D) (T : List Tk) (d : Nat) (r : Int) (hr : 0 ≤ r ∧ r < 300000000) (hd : d ≤ 5) (hT : ∀ t ∈ T, tkOk t) (hTl : T.length ≤ 1000) (hA : AwO d T) :
    @Ok _ (m__law_parts_2_5 [x0, some (.lst .own (T.map encTk)), some (tN d), x3, some (tI r), x5]) ⟨(fun o => @Leaf _ o ⟨fun o => (∃ (T' : List Tk) (d' : Nat) (r' : Int), o = .nx [x0, some (.lst .own (T'.map encTk)), some (tN d'), x3, some (tI r'), x5] ∧ (0 ≤ r' ∧ r' < 300000000) ∧ d' ≤ 5 ∧ (∀ t ∈ T', tkOk t) ∧ (T'.length ≤ T.length + 5 ∧ nlf T' = nlf T) ∧ AwO d' T')⟩)⟩ := by
  unfold m__law_parts_2_5
  refine ok_While (fun v ds => ∃ (T' : List Tk) (d' : Nat) (r' : Int), ds = [x0, some (.lst .own (T'.map encTk)), some (tN d'), x3, some (tI r'), x5] ∧ v = d' ∧ (0 ≤ r' ∧ r' < 300000000) ∧ d' ≤ 5 ∧ (∀ t ∈ T', tkOk t) ∧ (T'.length + d' = T.length + d ∧ nlf T' = nlf T) ∧ AwO d' T') d ⟨T, d, r, rfl, rfl, hr, hd, hT, ⟨rfl, rfl⟩, hA⟩ (by omega) ?_
  rintro v _ ⟨T1, d1, r1, rfl, rfl, hr1, hd1, hT1, hl1, hA1⟩
  have hb1 : r1 < 18446744073709551616 ∧ -18446744073709551616 < r1 := by omega
  have hTl : T1.length < 10000000 := by omega
  simp [ok_some, ok_none, br_true, br_false, req_true, req_false, okFz_b, dAdd_lst, dAdd_tp, take_nil, take_ex, take_bo, put_nil, put_bo, put_ex, outs, fxOf, ofStr_inj, dAdd_int, dSub_eq, clean, cleans, isN, dDictD_1, itemsS_1, dJoin_1, dStrF_1, dAdd_str, mPairs_nil, mPairs_cons, dMin2_1, dMax2_1, dAbs_1, dIntF_1, dIntF_2, isDic_d, isDic_v, isDic_t, isDic_l, dKey_i, dKey_s, dKx_i, dKx_s, dKin_i, dKin_s, getD_nil, getD_cons, hasK_nil, hasK_cons, putD_eq, mergeD_nil, mergeD_cons, dInF, dFdiv_eq, dMod_eq, dMul_r, dMul_l, dPow_eq, dShr_eq, dLt_eq, dLe_eq, dGt_eq, dGe_eq, dEq_int, dNe_int, dEq_bl, dNe_bl, dEq_str, dNe_str, atI_z, atI_lit, atI_n, ixN_lit, ixN_n, fz, fzs, fzO, wipeD, dIx_l, dIx_t, gNl_1, csK_1, gCs_1, gTu_1, itemsL_1, itemsT_1, mRng_1, mRng_2, dTup_1, dLst_1, setSlot_1, setK_1, gNm_1, dLen_l, dLen_t, dTuple_l, dTuple_t, dList_l, dList_t, oNo_1, oK_1, slK_1, slK1_1, slK2_1, dCut_l, dCut_t, isi_bool_bool, isi_bool_int, isi_bool_str, isi_bool_tuple, isi_bool_list, isi_int_bool, isi_int_int, isi_int_str, isi_int_tuple, isi_int_list, isi_str_bool, isi_str_int, isi_str_str, isi_str_tuple, isi_str_list, isi_tuple_bool, isi_tuple_int, isi_tuple_str, isi_tuple_tuple, isi_tuple_list, isi_list_bool, isi_list_int, isi_list_str, isi_list_tuple, isi_list_list, isi_nonetype_bool, isi_nonetype_int, isi_nonetype_str, isi_nonetype_tuple, isi_nonetype_list, isi_T, hb1]
  refine br_mk (fun h1 => ?_) (fun h1 => ?_)
  · simp [ok_some, ok_none, br_true, br_false, req_true, req_false, okFz_b, dAdd_lst, dAdd_tp, take_nil, take_ex, take_bo, put_nil, put_bo, put_ex, outs, fxOf, ofStr_inj, dAdd_int, dSub_eq, clean, cleans, isN, dDictD_1, itemsS_1, dJoin_1, dStrF_1, dAdd_str, mPairs_nil, mPairs_cons, dMin2_1, dMax2_1, dAbs_1, dIntF_1, dIntF_2, isDic_d, isDic_v, isDic_t, isDic_l, dKey_i, dKey_s, dKx_i, dKx_s, dKin_i, dKin_s, getD_nil, getD_cons, hasK_nil, hasK_cons, putD_eq, mergeD_nil, mergeD_cons, dInF, dFdiv_eq, dMod_eq, dMul_r, dMul_l, dPow_eq, dShr_eq, dLt_eq, dLe_eq, dGt_eq, dGe_eq, dEq_int, dNe_int, dEq_bl, dNe_bl, dEq_str, dNe_str, atI_z, atI_lit, atI_n, ixN_lit, ixN_n, fz, fzs, fzO, wipeD, dIx_l, dIx_t, gNl_1, csK_1, gCs_1, gTu_1, itemsL_1, itemsT_1, mRng_1, mRng_2, dTup_1, dLst_1, setSlot_1, setK_1, gNm_1, dLen_l, dLen_t, dTuple_l, dTuple_t, dList_l, dList_t, oNo_1, oK_1, slK_1, slK1_1, slK2_1, dCut_l, dCut_t, isi_bool_bool, isi_bool_int, isi_bool_str, isi_bool_tuple, isi_bool_list, isi_int_bool, isi_int_int, isi_int_str, isi_int_tuple, isi_int_list, isi_str_bool, isi_str_int, isi_str_str, isi_str_tuple, isi_str_list, isi_tuple_bool, isi_tuple_int, isi_tuple_str, isi_tuple_tuple, isi_tuple_list, isi_list_bool, isi_list_int, isi_list_str, isi_list_tuple, isi_list_list, isi_nonetype_bool, isi_nonetype_int, isi_nonetype_str, isi_nonetype_tuple, isi_nonetype_list, isi_T, hb1]
    refine br_mk (fun h2 => ?_) (fun h2 => ?_)
    · simp [ok_some, ok_none, br_true, br_false, req_true, req_false, okFz_b, dAdd_lst, dAdd_tp, take_nil, take_ex, take_bo, put_nil, put_bo, put_ex, outs, fxOf, ofStr_inj, dAdd_int, dSub_eq, clean, cleans, isN, dDictD_1, itemsS_1, dJoin_1, dStrF_1, dAdd_str, mPairs_nil, mPairs_cons, dMin2_1, dMax2_1, dAbs_1, dIntF_1, dIntF_2, isDic_d, isDic_v, isDic_t, isDic_l, dKey_i, dKey_s, dKx_i, dKx_s, dKin_i, dKin_s, getD_nil, getD_cons, hasK_nil, hasK_cons, putD_eq, mergeD_nil, mergeD_cons, dInF, dFdiv_eq, dMod_eq, dMul_r, dMul_l, dPow_eq, dShr_eq, dLt_eq, dLe_eq, dGt_eq, dGe_eq, dEq_int, dNe_int, dEq_bl, dNe_bl, dEq_str, dNe_str, atI_z, atI_lit, atI_n, ixN_lit, ixN_n, fz, fzs, fzO, wipeD, dIx_l, dIx_t, gNl_1, csK_1, gCs_1, gTu_1, itemsL_1, itemsT_1, mRng_1, mRng_2, dTup_1, dLst_1, setSlot_1, setK_1, gNm_1, dLen_l, dLen_t, dTuple_l, dTuple_t, dList_l, dList_t, oNo_1, oK_1, slK_1, slK1_1, slK2_1, dCut_l, dCut_t, isi_bool_bool, isi_bool_int, isi_bool_str, isi_bool_tuple, isi_bool_list, isi_int_bool, isi_int_int, isi_int_str, isi_int_tuple, isi_int_list, isi_str_bool, isi_str_int, isi_str_str, isi_str_tuple, isi_str_list, isi_tuple_bool, isi_tuple_int, isi_tuple_str, isi_tuple_tuple, isi_tuple_list, isi_list_bool, isi_list_int, isi_list_str, isi_list_tuple, isi_list_list, isi_nonetype_bool, isi_nonetype_int, isi_nonetype_str, isi_nonetype_tuple, isi_nonetype_list, isi_T, hb1]
      refine br_mk (fun h3 => ?_) (fun h3 => ?_)
      · obtain ⟨d2, rfl⟩ : ∃ d2, v = d2 + 1 := ⟨v - 1, by omega⟩
        have hps : D.v (V.str (Str.ofString ")")) = encTk .rp := parS.2
        simp [ok_some, ok_none, br_true, br_false, req_true, req_false, okFz_b, dAdd_lst, dAdd_tp, take_nil, take_ex, take_bo, put_nil, put_bo, put_ex, outs, fxOf, ofStr_inj, dAdd_int, dSub_eq, clean, cleans, isN, dDictD_1, itemsS_1, dJoin_1, dStrF_1, dAdd_str, mPairs_nil, mPairs_cons, dMin2_1, dMax2_1, dAbs_1, dIntF_1, dIntF_2, isDic_d, isDic_v, isDic_t, isDic_l, dKey_i, dKey_s, dKx_i, dKx_s, dKin_i, dKin_s, getD_nil, getD_cons, hasK_nil, hasK_cons, putD_eq, mergeD_nil, mergeD_cons, dInF, dFdiv_eq, dMod_eq, dMul_r, dMul_l, dPow_eq, dShr_eq, dLt_eq, dLe_eq, dGt_eq, dGe_eq, dEq_int, dNe_int, dEq_bl, dNe_bl, dEq_str, dNe_str, atI_z, atI_lit, atI_n, ixN_lit, ixN_n, fz, fzs, fzO, wipeD, dIx_l, dIx_t, gNl_1, csK_1, gCs_1, gTu_1, itemsL_1, itemsT_1, mRng_1, mRng_2, dTup_1, dLst_1, setSlot_1, setK_1, gNm_1, dLen_l, dLen_t, dTuple_l, dTuple_t, dList_l, dList_t, oNo_1, oK_1, slK_1, slK1_1, slK2_1, dCut_l, dCut_t, isi_bool_bool, isi_bool_int, isi_bool_str, isi_bool_tuple, isi_bool_list, isi_int_bool, isi_int_int, isi_int_str, isi_int_tuple, isi_int_list, isi_str_bool, isi_str_int, isi_str_str, isi_str_tuple, isi_str_list, isi_tuple_bool, isi_tuple_int, isi_tuple_str, isi_tuple_tuple, isi_tuple_list, isi_list_bool, isi_list_int, isi_list_str, isi_list_tuple, isi_list_list, isi_nonetype_bool, isi_nonetype_int, isi_nonetype_str, isi_nonetype_tuple, isi_nonetype_list, isi_T, hb1, m__law_parts_2_5_0, m__law_parts_2_5_1, m__law_parts_2_5_2, hTl]
        refine Leaf.mk ⟨d2, by omega, T1 ++ [.rp], d2, r1 / 3, ?_, rfl, by omega, by omega, fun t ht => ?_, ⟨by have := hl1.1; simp; omega, by rw [nlf_app]; simp only [nlf]; exact hl1.2⟩, fun rest hrest => ?_⟩
        · rw [hps]; simp
        · rcases List.mem_append.mp ht with h | h
          · exact hT1 t h
          · rw [List.mem_singleton.mp h]; trivial
        · rw [List.append_assoc]
          exact hA1 _ (by unfold wfO; exact ⟨by omega, by simpa using hrest⟩)
      · simp [ok_some, ok_none, br_true, br_false, req_true, req_false, okFz_b, dAdd_lst, dAdd_tp, take_nil, take_ex, take_bo, put_nil, put_bo, put_ex, outs, fxOf, ofStr_inj, dAdd_int, dSub_eq, clean, cleans, isN, dDictD_1, itemsS_1, dJoin_1, dStrF_1, dAdd_str, mPairs_nil, mPairs_cons, dMin2_1, dMax2_1, dAbs_1, dIntF_1, dIntF_2, isDic_d, isDic_v, isDic_t, isDic_l, dKey_i, dKey_s, dKx_i, dKx_s, dKin_i, dKin_s, getD_nil, getD_cons, hasK_nil, hasK_cons, putD_eq, mergeD_nil, mergeD_cons, dInF, dFdiv_eq, dMod_eq, dMul_r, dMul_l, dPow_eq, dShr_eq, dLt_eq, dLe_eq, dGt_eq, dGe_eq, dEq_int, dNe_int, dEq_bl, dNe_bl, dEq_str, dNe_str, atI_z, atI_lit, atI_n, ixN_lit, ixN_n, fz, fzs, fzO, wipeD, dIx_l, dIx_t, gNl_1, csK_1, gCs_1, gTu_1, itemsL_1, itemsT_1, mRng_1, mRng_2, dTup_1, dLst_1, setSlot_1, setK_1, gNm_1, dLen_l, dLen_t, dTuple_l, dTuple_t, dList_l, dList_t, oNo_1, oK_1, slK_1, slK1_1, slK2_1, dCut_l, dCut_t, isi_bool_bool, isi_bool_int, isi_bool_str, isi_bool_tuple, isi_bool_list, isi_int_bool, isi_int_int, isi_int_str, isi_int_tuple, isi_int_list, isi_str_bool, isi_str_int, isi_str_str, isi_str_tuple, isi_str_list, isi_tuple_bool, isi_tuple_int, isi_tuple_str, isi_tuple_tuple, isi_tuple_list, isi_list_bool, isi_list_int, isi_list_str, isi_list_tuple, isi_list_list, isi_nonetype_bool, isi_nonetype_int, isi_nonetype_str, isi_nonetype_tuple, isi_nonetype_list, isi_T]
        exact Leaf.mk ⟨T1, v, r1, rfl, hr1, hd1, hT1, ⟨by omega, hl1.2⟩, hA1⟩
    · simp [ok_some, ok_none, br_true, br_false, req_true, req_false, okFz_b, dAdd_lst, dAdd_tp, take_nil, take_ex, take_bo, put_nil, put_bo, put_ex, outs, fxOf, ofStr_inj, dAdd_int, dSub_eq, clean, cleans, isN, dDictD_1, itemsS_1, dJoin_1, dStrF_1, dAdd_str, mPairs_nil, mPairs_cons, dMin2_1, dMax2_1, dAbs_1, dIntF_1, dIntF_2, isDic_d, isDic_v, isDic_t, isDic_l, dKey_i, dKey_s, dKx_i, dKx_s, dKin_i, dKin_s, getD_nil, getD_cons, hasK_nil, hasK_cons, putD_eq, mergeD_nil, mergeD_cons, dInF, dFdiv_eq, dMod_eq, dMul_r, dMul_l, dPow_eq, dShr_eq, dLt_eq, dLe_eq, dGt_eq, dGe_eq, dEq_int, dNe_int, dEq_bl, dNe_bl, dEq_str, dNe_str, atI_z, atI_lit, atI_n, ixN_lit, ixN_n, fz, fzs, fzO, wipeD, dIx_l, dIx_t, gNl_1, csK_1, gCs_1, gTu_1, itemsL_1, itemsT_1, mRng_1, mRng_2, dTup_1, dLst_1, setSlot_1, setK_1, gNm_1, dLen_l, dLen_t, dTuple_l, dTuple_t, dList_l, dList_t, oNo_1, oK_1, slK_1, slK1_1, slK2_1, dCut_l, dCut_t, isi_bool_bool, isi_bool_int, isi_bool_str, isi_bool_tuple, isi_bool_list, isi_int_bool, isi_int_int, isi_int_str, isi_int_tuple, isi_int_list, isi_str_bool, isi_str_int, isi_str_str, isi_str_tuple, isi_str_list, isi_tuple_bool, isi_tuple_int, isi_tuple_str, isi_tuple_tuple, isi_tuple_list, isi_list_bool, isi_list_int, isi_list_str, isi_list_tuple, isi_list_list, isi_nonetype_bool, isi_nonetype_int, isi_nonetype_str, isi_nonetype_tuple, isi_nonetype_list, isi_T]
      exact Leaf.mk ⟨T1, v, r1, rfl, hr1, hd1, hT1, ⟨by omega, hl1.2⟩, hA1⟩
  · simp [ok_some, ok_none, br_true, br_false, req_true, req_false, okFz_b, dAdd_lst, dAdd_tp, take_nil, take_ex, take_bo, put_nil, put_bo, put_ex, outs, fxOf, ofStr_inj, dAdd_int, dSub_eq, clean, cleans, isN, dDictD_1, itemsS_1, dJoin_1, dStrF_1, dAdd_str, mPairs_nil, mPairs_cons, dMin2_1, dMax2_1, dAbs_1, dIntF_1, dIntF_2, isDic_d, isDic_v, isDic_t, isDic_l, dKey_i, dKey_s, dKx_i, dKx_s, dKin_i, dKin_s, getD_nil, getD_cons, hasK_nil, hasK_cons, putD_eq, mergeD_nil, mergeD_cons, dInF, dFdiv_eq, dMod_eq, dMul_r, dMul_l, dPow_eq, dShr_eq, dLt_eq, dLe_eq, dGt_eq, dGe_eq, dEq_int, dNe_int, dEq_bl, dNe_bl, dEq_str, dNe_str, atI_z, atI_lit, atI_n, ixN_lit, ixN_n, fz, fzs, fzO, wipeD, dIx_l, dIx_t, gNl_1, csK_1, gCs_1, gTu_1, itemsL_1, itemsT_1, mRng_1, mRng_2, dTup_1, dLst_1, setSlot_1, setK_1, gNm_1, dLen_l, dLen_t, dTuple_l, dTuple_t, dList_l, dList_t, oNo_1, oK_1, slK_1, slK1_1, slK2_1, dCut_l, dCut_t, isi_bool_bool, isi_bool_int, isi_bool_str, isi_bool_tuple, isi_bool_list, isi_int_bool, isi_int_int, isi_int_str, isi_int_tuple, isi_int_list, isi_str_bool, isi_str_int, isi_str_str, isi_str_tuple, isi_str_list, isi_tuple_bool, isi_tuple_int, isi_tuple_str, isi_tuple_tuple, isi_tuple_list, isi_list_bool, isi_list_int, isi_list_str, isi_list_tuple, isi_list_list, isi_nonetype_bool, isi_nonetype_int, isi_nonetype_str, isi_nonetype_tuple, isi_nonetype_list, isi_T]
    exact Leaf.mk ⟨T1, v, r1, rfl, hr1, hd1, hT1, ⟨by omega, hl1.2⟩, hA1⟩
end My
set_option exponentiation.threshold 10000
namespace My
open PySem L2 Z
def wfEnd (d : Nat) (T : List Tk) : Prop := (d = 0 ∧ T = []) ∨ ∃ T0 c, T = T0 ++ [.op c] ∧ opC c ∧ AwO d T0
theorem rps_wf : ∀ d, wfO Q3 d (List.replicate d Tk.rp)
  | 0 => by unfold wfO; rfl
  | d + 1 => by
    rw [List.replicate_succ]
    unfold wfO
    exact ⟨by omega, by simpa using rps_wf d⟩
theorem rps_nlf : ∀ d, nlf (List.replicate d Tk.rp) = 0
  | 0 => rfl
  | d + 1 => by rw [List.replicate_succ, nlf, rps_nlf d]
theorem leaf_nlf {t : Tk} (h : leafOk t) : nlf [t] = 1 := by
  rcases h with ⟨n, rfl, hn⟩ | ⟨l, rfl, hl⟩ <;> rfl
theorem aw_end {d : Nat} {T : List Tk} (h : wfEnd d T) : AwA d T := by
  rcases h with ⟨rfl, rfl⟩ | ⟨T0, c, rfl, hc, hA⟩
  · exact fun rest h => h
  · intro rest h
    rw [List.append_assoc]
    exact hA _ (by unfold wfO; exact ⟨hc, h⟩)
theorem parts_ok (cell : Int) : ∃ T : List Tk, F__law_parts [tI cell] = some (.lst .own (T.map encTk), [some (tI cell)]) ∧ (∀ t ∈ T, tkOk t) ∧ wfA Q3 0 T ∧ T.length ≤ 1000 ∧ nlf T ≤ 10 := by
  suffices hh : @Ok _ (F__law_parts [tI cell]) ⟨(fun o => @Leaf _ o ⟨fun o => (∃ T : List Tk, o = (.lst .own (T.map encTk), [some (tI cell)]) ∧ (∀ t ∈ T, tkOk t) ∧ wfA Q3 0 T ∧ T.length ≤ 1000 ∧ nlf T ≤ 10)⟩)⟩ by
    obtain ⟨o, e, h0⟩ := hh
    obtain ⟨T, rfl, h⟩ := h0.out
    exact ⟨T, e, h⟩
  obtain ⟨r0, e0, hr0, _⟩ := stir_ok cell 0 (by decide) (by decide)
  have q0 : 0 ≤ r0 % 10 := Int.emod_nonneg _ (by decide)
  have q1 : r0 % 10 < 10 := Int.emod_lt_of_pos _ (by decide)
  obtain ⟨M, hM⟩ := Int.eq_ofNat_of_zero_le q0
  have hr : (1 + r0 % 10 < 1000000000 ∧ -1000000000 < 1 + r0 % 10) := by omega
  have hMM : 1 + r0 % 10 = ((M + 1 : Nat) : Int) := by omega
  have hr2 : (((M + 1 : Nat) : Int) < 1000000000 ∧ -1000000000 < ((M + 1 : Nat) : Int)) := by omega
  have hb0 : r0 < 18446744073709551616 ∧ -18446744073709551616 < r0 := by omega
  simp [ok_some, ok_none, br_true, br_false, req_true, req_false, okFz_b, dAdd_lst, dAdd_tp, take_nil, take_ex, take_bo, put_nil, put_bo, put_ex, outs, fxOf, ofStr_inj, dAdd_int, dSub_eq, clean, cleans, isN, dDictD_1, itemsS_1, dJoin_1, dStrF_1, dAdd_str, mPairs_nil, mPairs_cons, dMin2_1, dMax2_1, dAbs_1, dIntF_1, dIntF_2, isDic_d, isDic_v, isDic_t, isDic_l, dKey_i, dKey_s, dKx_i, dKx_s, dKin_i, dKin_s, getD_nil, getD_cons, hasK_nil, hasK_cons, putD_eq, mergeD_nil, mergeD_cons, dInF, dFdiv_eq, dMod_eq, dMul_r, dMul_l, dPow_eq, dShr_eq, dLt_eq, dLe_eq, dGt_eq, dGe_eq, dEq_int, dNe_int, dEq_bl, dNe_bl, dEq_str, dNe_str, atI_z, atI_lit, atI_n, ixN_lit, ixN_n, fz, fzs, fzO, wipeD, dIx_l, dIx_t, gNl_1, csK_1, gCs_1, gTu_1, itemsL_1, itemsT_1, mRng_1, mRng_2, dTup_1, dLst_1, setSlot_1, setK_1, gNm_1, dLen_l, dLen_t, dTuple_l, dTuple_t, dList_l, dList_t, oNo_1, oK_1, slK_1, slK1_1, slK2_1, dCut_l, dCut_t, isi_bool_bool, isi_bool_int, isi_bool_str, isi_bool_tuple, isi_bool_list, isi_int_bool, isi_int_int, isi_int_str, isi_int_tuple, isi_int_list, isi_str_bool, isi_str_int, isi_str_str, isi_str_tuple, isi_str_list, isi_tuple_bool, isi_tuple_int, isi_tuple_str, isi_tuple_tuple, isi_tuple_list, isi_list_bool, isi_list_int, isi_list_str, isi_list_tuple, isi_list_list, isi_nonetype_bool, isi_nonetype_int, isi_nonetype_str, isi_nonetype_tuple, isi_nonetype_list, isi_T, F__law_parts, m__law_parts, m__law_parts_0, m__law_parts_1, m__law_parts_2, e0, hb0]
  rw [hMM]
  simp [ok_some, ok_none, br_true, br_false, req_true, req_false, okFz_b, dAdd_lst, dAdd_tp, take_nil, take_ex, take_bo, put_nil, put_bo, put_ex, outs, fxOf, ofStr_inj, dAdd_int, dSub_eq, clean, cleans, isN, dDictD_1, itemsS_1, dJoin_1, dStrF_1, dAdd_str, mPairs_nil, mPairs_cons, dMin2_1, dMax2_1, dAbs_1, dIntF_1, dIntF_2, isDic_d, isDic_v, isDic_t, isDic_l, dKey_i, dKey_s, dKx_i, dKx_s, dKin_i, dKin_s, getD_nil, getD_cons, hasK_nil, hasK_cons, putD_eq, mergeD_nil, mergeD_cons, dInF, dFdiv_eq, dMod_eq, dMul_r, dMul_l, dPow_eq, dShr_eq, dLt_eq, dLe_eq, dGt_eq, dGe_eq, dEq_int, dNe_int, dEq_bl, dNe_bl, dEq_str, dNe_str, atI_z, atI_lit, atI_n, ixN_lit, ixN_n, fz, fzs, fzO, wipeD, dIx_l, dIx_t, gNl_1, csK_1, gCs_1, gTu_1, itemsL_1, itemsT_1, mRng_1, mRng_2, dTup_1, dLst_1, setSlot_1, setK_1, gNm_1, dLen_l, dLen_t, dTuple_l, dTuple_t, dList_l, dList_t, oNo_1, oK_1, slK_1, slK1_1, slK2_1, dCut_l, dCut_t, isi_bool_bool, isi_bool_int, isi_bool_str, isi_bool_tuple, isi_bool_list, isi_int_bool, isi_int_int, isi_int_str, isi_int_tuple, isi_int_list, isi_str_bool, isi_str_int, isi_str_str, isi_str_tuple, isi_str_list, isi_tuple_bool, isi_tuple_int, isi_tuple_str, isi_tuple_tuple, isi_tuple_list, isi_list_bool, isi_list_int, isi_list_str, isi_list_tuple, isi_list_list, isi_nonetype_bool, isi_nonetype_int, isi_nonetype_str, isi_nonetype_tuple, isi_nonetype_list, isi_T]
  rw [if_pos (show (M : Int) + 1 < 1000000000 ∧ -1000000000 < (M : Int) + 1 by omega)]
  simp [ok_some, ok_none, br_true, br_false, req_true, req_false, okFz_b, dAdd_lst, dAdd_tp, take_nil, take_ex, take_bo, put_nil, put_bo, put_ex, outs, fxOf, ofStr_inj, dAdd_int, dSub_eq, clean, cleans, isN, dDictD_1, itemsS_1, dJoin_1, dStrF_1, dAdd_str, mPairs_nil, mPairs_cons, dMin2_1, dMax2_1, dAbs_1, dIntF_1, dIntF_2, isDic_d, isDic_v, isDic_t, isDic_l, dKey_i, dKey_s, dKx_i, dKx_s, dKin_i, dKin_s, getD_nil, getD_cons, hasK_nil, hasK_cons, putD_eq, mergeD_nil, mergeD_cons, dInF, dFdiv_eq, dMod_eq, dMul_r, dMul_l, dPow_eq, dShr_eq, dLt_eq, dLe_eq, dGt_eq, dGe_eq, dEq_int, dNe_int, dEq_bl, dNe_bl, dEq_str, dNe_str, atI_z, atI_lit, atI_n, ixN_lit, ixN_n, fz, fzs, fzO, wipeD, dIx_l, dIx_t, gNl_1, csK_1, gCs_1, gTu_1, itemsL_1, itemsT_1, mRng_1, mRng_2, dTup_1, dLst_1, setSlot_1, setK_1, gNm_1, dLen_l, dLen_t, dTuple_l, dTuple_t, dList_l, dList_t, oNo_1, oK_1, slK_1, slK1_1, slK2_1, dCut_l, dCut_t, isi_bool_bool, isi_bool_int, isi_bool_str, isi_bool_tuple, isi_bool_list, isi_int_bool, isi_int_int, isi_int_str, isi_int_tuple, isi_int_list, isi_str_bool, isi_str_int, isi_str_str, isi_str_tuple, isi_str_list, isi_tuple_bool, isi_tuple_int, isi_tuple_str, isi_tuple_tuple, isi_tuple_list, isi_list_bool, isi_list_int, isi_list_str, isi_list_tuple, isi_list_list, isi_nonetype_bool, isi_nonetype_int, isi_nonetype_str, isi_nonetype_tuple, isi_nonetype_list, isi_T]
  rw [range_tN]
  refine ok_forI tN (List.range (M + 1)) (fun pre ds => ∃ (T : List Tk) (d : Nat) (x3 x4 x5 : Option D), ds = [some (tI cell), some (.lst .own (T.map encTk)), some (tN d), x3, x4, x5] ∧ d ≤ 5 ∧ (∀ t ∈ T, tkOk t) ∧ (T.length ≤ 12 * pre.length ∧ nlf T ≤ pre.length) ∧ wfEnd d T ∧ (pre ≠ [] → T ≠ [])) ⟨[], 0, none, none, none, rfl, by omega, (fun t h => nomatch h), ⟨by simp, by simp [nlf]⟩, .inl ⟨rfl, rfl⟩, fun h => absurd rfl h⟩ ?_ ?_
  · rintro pre k rest _ hx ⟨T, d, x3, x4, x5, rfl, hd, hT, hl, hw, _⟩
    have hpl : pre.length ≤ 10 := by
      have := congrArg List.length hx
      simp at this; omega
    have hk : k < 11 := by
      have : k ∈ List.range (M + 1) := by rw [hx]; simp
      have := List.mem_range.mp this
      omega
    obtain ⟨r, e1, hr0, hr1⟩ := stir_ok cell (1 + (k : Int)) (by omega) (by omega)
    have hkb : (k : Int) < 18446744073709551616 ∧ -18446744073709551616 < (k : Int) := by omega
    have hkc : 1 + (k : Int) < 18446744073709551616 ∧ -18446744073709551616 < 1 + (k : Int) := by omega
    simp [ok_some, ok_none, br_true, br_false, req_true, req_false, okFz_b, dAdd_lst, dAdd_tp, take_nil, take_ex, take_bo, put_nil, put_bo, put_ex, outs, fxOf, ofStr_inj, dAdd_int, dSub_eq, clean, cleans, isN, dDictD_1, itemsS_1, dJoin_1, dStrF_1, dAdd_str, mPairs_nil, mPairs_cons, dMin2_1, dMax2_1, dAbs_1, dIntF_1, dIntF_2, isDic_d, isDic_v, isDic_t, isDic_l, dKey_i, dKey_s, dKx_i, dKx_s, dKin_i, dKin_s, getD_nil, getD_cons, hasK_nil, hasK_cons, putD_eq, mergeD_nil, mergeD_cons, dInF, dFdiv_eq, dMod_eq, dMul_r, dMul_l, dPow_eq, dShr_eq, dLt_eq, dLe_eq, dGt_eq, dGe_eq, dEq_int, dNe_int, dEq_bl, dNe_bl, dEq_str, dNe_str, atI_z, atI_lit, atI_n, ixN_lit, ixN_n, fz, fzs, fzO, wipeD, dIx_l, dIx_t, gNl_1, csK_1, gCs_1, gTu_1, itemsL_1, itemsT_1, mRng_1, mRng_2, dTup_1, dLst_1, setSlot_1, setK_1, gNm_1, dLen_l, dLen_t, dTuple_l, dTuple_t, dList_l, dList_t, oNo_1, oK_1, slK_1, slK1_1, slK2_1, dCut_l, dCut_t, isi_bool_bool, isi_bool_int, isi_bool_str, isi_bool_tuple, isi_bool_list, isi_int_bool, isi_int_int, isi_int_str, isi_int_tuple, isi_int_list, isi_str_bool, isi_str_int, isi_str_str, isi_str_tuple, isi_str_list, isi_tuple_bool, isi_tuple_int, isi_tuple_str, isi_tuple_tuple, isi_tuple_list, isi_list_bool, isi_list_int, isi_list_str, isi_list_tuple, isi_list_list, isi_nonetype_bool, isi_nonetype_int, isi_nonetype_str, isi_nonetype_tuple, isi_nonetype_list, isi_T, m__law_parts_2_0, e1, hkb, hkc]
    refine (open_ok _ _ _ T d r ⟨hr0, hr1⟩ hd hT (by omega) (aw_end hw)).mono ?_
    rintro o ho
    obtain ⟨T1, d1, r1, rfl, hr1, hd1, hT1, hl1, hA1⟩ := ho.out
    have hb1 : r1 < 18446744073709551616 ∧ -18446744073709551616 < r1 := by omega
    obtain ⟨n1, hn1⟩ := Int.eq_ofNat_of_zero_le (show 0 ≤ r1 / 8 % 12 by omega)
    obtain ⟨n2, hn2⟩ := Int.eq_ofNat_of_zero_le (show 0 ≤ r1 / 8 % 1000 by omega)
    have s1 := tN_str n1 (by omega)
    have s2 := tN_str n2 (by omega)
    rw [← hn1] at s1
    rw [← hn2] at s2
    obtain ⟨t, ht, hat⟩ := leaf_at r1 n1 n2 (by omega) (by omega)
    unfold encTk at hat
    have hct := @clean_C1 (sgT t)
    have hl1' : T1.length < 10000000 := by omega
    have hb8 : r1 / 8 < 18446744073709551616 ∧ -18446744073709551616 < r1 / 8 := by omega
    simp [ok_some, ok_none, br_true, br_false, req_true, req_false, okFz_b, dAdd_lst, dAdd_tp, take_nil, take_ex, take_bo, put_nil, put_bo, put_ex, outs, fxOf, ofStr_inj, dAdd_int, dSub_eq, clean, cleans, isN, dDictD_1, itemsS_1, dJoin_1, dStrF_1, dAdd_str, mPairs_nil, mPairs_cons, dMin2_1, dMax2_1, dAbs_1, dIntF_1, dIntF_2, isDic_d, isDic_v, isDic_t, isDic_l, dKey_i, dKey_s, dKx_i, dKx_s, dKin_i, dKin_s, getD_nil, getD_cons, hasK_nil, hasK_cons, putD_eq, mergeD_nil, mergeD_cons, dInF, dFdiv_eq, dMod_eq, dMul_r, dMul_l, dPow_eq, dShr_eq, dLt_eq, dLe_eq, dGt_eq, dGe_eq, dEq_int, dNe_int, dEq_bl, dNe_bl, dEq_str, dNe_str, atI_z, atI_lit, atI_n, ixN_lit, ixN_n, fz, fzs, fzO, wipeD, dIx_l, dIx_t, gNl_1, csK_1, gCs_1, gTu_1, itemsL_1, itemsT_1, mRng_1, mRng_2, dTup_1, dLst_1, setSlot_1, setK_1, gNm_1, dLen_l, dLen_t, dTuple_l, dTuple_t, dList_l, dList_t, oNo_1, oK_1, slK_1, slK1_1, slK2_1, dCut_l, dCut_t, isi_bool_bool, isi_bool_int, isi_bool_str, isi_bool_tuple, isi_bool_list, isi_int_bool, isi_int_int, isi_int_str, isi_int_tuple, isi_int_list, isi_str_bool, isi_str_int, isi_str_str, isi_str_tuple, isi_str_list, isi_tuple_bool, isi_tuple_int, isi_tuple_str, isi_tuple_tuple, isi_tuple_list, isi_list_bool, isi_list_int, isi_list_str, isi_list_tuple, isi_list_list, isi_nonetype_bool, isi_nonetype_int, isi_nonetype_str, isi_nonetype_tuple, isi_nonetype_list, isi_T, m__law_parts_2_2, hb1, hb8, s1, s2, hat, m__law_parts_2_3, hct, hl1']
    have e3 : T1.map encTk ++ [tC (sgT t)] = (T1 ++ [t]).map encTk := by simp [encTk]
    rw [e3]
    simp [ok_some, ok_none, br_true, br_false, req_true, req_false, okFz_b, dAdd_lst, dAdd_tp, take_nil, take_ex, take_bo, put_nil, put_bo, put_ex, outs, fxOf, ofStr_inj, dAdd_int, dSub_eq, clean, cleans, isN, dDictD_1, itemsS_1, dJoin_1, dStrF_1, dAdd_str, mPairs_nil, mPairs_cons, dMin2_1, dMax2_1, dAbs_1, dIntF_1, dIntF_2, isDic_d, isDic_v, isDic_t, isDic_l, dKey_i, dKey_s, dKx_i, dKx_s, dKin_i, dKin_s, getD_nil, getD_cons, hasK_nil, hasK_cons, putD_eq, mergeD_nil, mergeD_cons, dInF, dFdiv_eq, dMod_eq, dMul_r, dMul_l, dPow_eq, dShr_eq, dLt_eq, dLe_eq, dGt_eq, dGe_eq, dEq_int, dNe_int, dEq_bl, dNe_bl, dEq_str, dNe_str, atI_z, atI_lit, atI_n, ixN_lit, ixN_n, fz, fzs, fzO, wipeD, dIx_l, dIx_t, gNl_1, csK_1, gCs_1, gTu_1, itemsL_1, itemsT_1, mRng_1, mRng_2, dTup_1, dLst_1, setSlot_1, setK_1, gNm_1, dLen_l, dLen_t, dTuple_l, dTuple_t, dList_l, dList_t, oNo_1, oK_1, slK_1, slK1_1, slK2_1, dCut_l, dCut_t, isi_bool_bool, isi_bool_int, isi_bool_str, isi_bool_tuple, isi_bool_list, isi_int_bool, isi_int_int, isi_int_str, isi_int_tuple, isi_int_list, isi_str_bool, isi_str_int, isi_str_str, isi_str_tuple, isi_str_list, isi_tuple_bool, isi_tuple_int, isi_tuple_str, isi_tuple_tuple, isi_tuple_list, isi_list_bool, isi_list_int, isi_list_str, isi_list_tuple, isi_list_list, isi_nonetype_bool, isi_nonetype_int, isi_nonetype_str, isi_nonetype_tuple, isi_nonetype_list, isi_T, m__law_parts_2_4, hb1]
    rw [show List.map encTk T1 ++ [encTk t] = (T1 ++ [t]).map encTk by simp]
    have hAO : AwO d1 (T1 ++ [t]) := fun rest hrest => by
      rw [List.append_assoc]
      exact hA1 _ (leaf_wf ht hrest)
    refine (close_ok _ _ _ (T1 ++ [t]) d1 (r1 / 56) (by omega) hd1 (fun x hx => by
      rcases List.mem_append.mp hx with h | h
      · exact hT1 x h
      · rw [List.mem_singleton.mp h]; exact leaf_tk ht) (by simp; omega) hAO).mono ?_
    rintro o ho
    obtain ⟨T2, d2, r2, rfl, hr2, hd2, hT2, hl2, hA2⟩ := ho.out
    obtain ⟨c, hc, hcs⟩ := sign_at r2
    have hb2 : r2 < 18446744073709551616 ∧ -18446744073709551616 < r2 := by omega
    have hl2' : T2.length < 10000000 := by have := hl2.1; simp at this; omega
    have hce : clean (encTk (.op c)) = true := @clean_C1 [c]
    simp [ok_some, ok_none, br_true, br_false, req_true, req_false, okFz_b, dAdd_lst, dAdd_tp, take_nil, take_ex, take_bo, put_nil, put_bo, put_ex, outs, fxOf, ofStr_inj, dAdd_int, dSub_eq, clean, cleans, isN, dDictD_1, itemsS_1, dJoin_1, dStrF_1, dAdd_str, mPairs_nil, mPairs_cons, dMin2_1, dMax2_1, dAbs_1, dIntF_1, dIntF_2, isDic_d, isDic_v, isDic_t, isDic_l, dKey_i, dKey_s, dKx_i, dKx_s, dKin_i, dKin_s, getD_nil, getD_cons, hasK_nil, hasK_cons, putD_eq, mergeD_nil, mergeD_cons, dInF, dFdiv_eq, dMod_eq, dMul_r, dMul_l, dPow_eq, dShr_eq, dLt_eq, dLe_eq, dGt_eq, dGe_eq, dEq_int, dNe_int, dEq_bl, dNe_bl, dEq_str, dNe_str, atI_z, atI_lit, atI_n, ixN_lit, ixN_n, fz, fzs, fzO, wipeD, dIx_l, dIx_t, gNl_1, csK_1, gCs_1, gTu_1, itemsL_1, itemsT_1, mRng_1, mRng_2, dTup_1, dLst_1, setSlot_1, setK_1, gNm_1, dLen_l, dLen_t, dTuple_l, dTuple_t, dList_l, dList_t, oNo_1, oK_1, slK_1, slK1_1, slK2_1, dCut_l, dCut_t, isi_bool_bool, isi_bool_int, isi_bool_str, isi_bool_tuple, isi_bool_list, isi_int_bool, isi_int_int, isi_int_str, isi_int_tuple, isi_int_list, isi_str_bool, isi_str_int, isi_str_str, isi_str_tuple, isi_str_list, isi_tuple_bool, isi_tuple_int, isi_tuple_str, isi_tuple_tuple, isi_tuple_list, isi_list_bool, isi_list_int, isi_list_str, isi_list_tuple, isi_list_list, isi_nonetype_bool, isi_nonetype_int, isi_nonetype_str, isi_nonetype_tuple, isi_nonetype_list, isi_T, m__law_parts_2_6, hb2, hcs, hce, hl2']
    refine Leaf.mk ⟨T2 ++ [.op c], d2, some (tN k), some (tI r2), none, by simp, hd2, fun x hx => ?_, ⟨by have := hl2.1; simp at this ⊢; omega, by have h5 := hl2.2; have h6 := hl1.2; have h7 := hl.2; rw [nlf_app, h5, nlf_app, h6]; have h8 := leaf_nlf ht; rw [h8]; simp [nlf]; omega⟩, .inr ⟨T2, c, rfl, hc, hA2⟩, fun _ h => by simp at h⟩
    rcases List.mem_append.mp hx with h | h
    · exact hT2 x h
    · rw [List.mem_singleton.mp h]; exact hc
  · rintro _ ⟨T, d, x3, x4, x5, rfl, hd, hT, hl, hw, hne⟩
    rw [List.length_range] at hl
    have hT0 : ∃ T0 c, T = T0 ++ [.op c] ∧ opC c ∧ AwO d T0 := by
      rcases hw with ⟨_, h⟩ | h
      · exact absurd h (hne (by simp [List.range_succ]))
      · exact h
    obtain ⟨T0, c, rfl, hc, hA⟩ := hT0
    have hcT := cleans_Tk (T0 ++ [Tk.op c])
    have hfT := fzs_clean hcT
    have hcut : cutL ((T0 ++ [Tk.op c]).map encTk) none (some (-1)) = T0.map encTk := by
      unfold cutL
      have e : HT.sIx ((T0 ++ [Tk.op c]).map encTk).length ((T0 ++ [Tk.op c]).map encTk).length (some (-1)) = T0.length := by
        unfold HT.sIx
        simp
        omega
      rw [e, HT.sIx_none]
      simp
    have hmul : dMulV (.lst .own [encTk .rp]) (tN d) = some (.lst .own ((List.replicate d Tk.rp).map encTk)) := by
      show (if O.own ≠ .ext ∧ 0 ≤ (d : Int) ∧ (d : Int) ≤ 1000000 then some (D.lst .own (List.replicate (d : Int).toNat (encTk .rp))) else none) = _
      rw [if_pos ⟨by decide, by omega, by omega⟩, List.map_replicate, Int.toNat_natCast]
    have hda : dAdd (.lst .own (T0.map encTk)) (.lst .own ((List.replicate d Tk.rp).map encTk)) = some (.lst .own ((T0 ++ List.replicate d Tk.rp).map encTk)) := by
      rw [dAdd_lst (by decide) (by decide) (by have := hl.1; simp at this ⊢; omega), List.map_append]
    have hps : D.v (V.str (Str.ofString ")")) = encTk .rp := parS.2
    obtain ⟨TL, hTL⟩ : ∃ TL, (T0 ++ [Tk.op c]).map encTk = TL := ⟨_, rfl⟩
    obtain ⟨T0L, hT0L⟩ : ∃ T0L, T0.map encTk = T0L := ⟨_, rfl⟩
    obtain ⟨RL, hRL⟩ : ∃ RL, (List.replicate d Tk.rp).map encTk = RL := ⟨_, rfl⟩
    rw [hTL] at hcT hfT hcut ⊢
    rw [hT0L] at hcut hda
    rw [hRL] at hmul hda
    simp [ok_some, ok_none, br_true, br_false, req_true, req_false, okFz_b, dAdd_lst, dAdd_tp, take_nil, take_ex, take_bo, put_nil, put_bo, put_ex, outs, fxOf, ofStr_inj, dAdd_int, dSub_eq, clean, cleans, isN, dDictD_1, itemsS_1, dJoin_1, dStrF_1, dAdd_str, mPairs_nil, mPairs_cons, dMin2_1, dMax2_1, dAbs_1, dIntF_1, dIntF_2, isDic_d, isDic_v, isDic_t, isDic_l, dKey_i, dKey_s, dKx_i, dKx_s, dKin_i, dKin_s, getD_nil, getD_cons, hasK_nil, hasK_cons, putD_eq, mergeD_nil, mergeD_cons, dInF, dFdiv_eq, dMod_eq, dMul_r, dMul_l, dPow_eq, dShr_eq, dLt_eq, dLe_eq, dGt_eq, dGe_eq, dEq_int, dNe_int, dEq_bl, dNe_bl, dEq_str, dNe_str, atI_z, atI_lit, atI_n, ixN_lit, ixN_n, fz, fzs, fzO, wipeD, dIx_l, dIx_t, gNl_1, csK_1, gCs_1, gTu_1, itemsL_1, itemsT_1, mRng_1, mRng_2, dTup_1, dLst_1, setSlot_1, setK_1, gNm_1, dLen_l, dLen_t, dTuple_l, dTuple_t, dList_l, dList_t, oNo_1, oK_1, slK_1, slK1_1, slK2_1, dCut_l, dCut_t, isi_bool_bool, isi_bool_int, isi_bool_str, isi_bool_tuple, isi_bool_list, isi_int_bool, isi_int_int, isi_int_str, isi_int_tuple, isi_int_list, isi_str_bool, isi_str_int, isi_str_str, isi_str_tuple, isi_str_list, isi_tuple_bool, isi_tuple_int, isi_tuple_str, isi_tuple_tuple, isi_tuple_list, isi_list_bool, isi_list_int, isi_list_str, isi_list_tuple, isi_list_list, isi_nonetype_bool, isi_nonetype_int, isi_nonetype_str, isi_nonetype_tuple, isi_nonetype_list, isi_T, m__law_parts_3, hcT, hfT, hcut, hps, hmul, hda]
    refine Leaf.mk ⟨T0 ++ List.replicate d Tk.rp, by simp, fun t ht => ?_, hA _ (rps_wf d), by have := hl.1; simp at this ⊢; omega, ?_⟩
    · rcases List.mem_append.mp ht with h | h
      · exact hT t (List.mem_append_left _ h)
      · rw [List.eq_of_mem_replicate h]; trivial
    · have h5 := hl.2
      rw [nlf_app] at h5 ⊢
      rw [rps_nlf]
      simp only [nlf] at h5
      omega
end My
set_option exponentiation.threshold 10000
namespace My
open PySem L2 Z
theorem str_eq {x : String} {m : List Nat} (hx : Str.ofString x = ⟨m.toArray⟩) (l : List Nat) : dEq (tC l) (tS x) = some (.v (.bl (decide (l = m)))) := by
  show dEq (.v (.str ⟨⟨l⟩⟩)) (.v (.str (Str.ofString x))) = _
  rw [hx]
  unfold dEq dEqB
  simp [scal]
/-! ### what a read expression is worth -/
def depX : Ex → Nat
  | .op _ x y => 1 + max (depX x) (depX y)
  | _ => 0
theorem lv_pos : ∀ e : Ex, 1 ≤ lvX e
  | .num _ => Nat.le_refl _
  | .box _ => Nat.le_refl _
  | .op _ x y => by have := lv_pos x; simp only [lvX]; omega
theorem dep_lv : ∀ e : Ex, depX e + 1 ≤ lvX e
  | .num _ => Nat.le_refl _
  | .box _ => Nat.le_refl _
  | .op _ x y => by
    have h1 := dep_lv x
    have h2 := dep_lv y
    simp only [depX, lvX]
    omega
theorem val_bnd (x y z : Int) (hx : x.natAbs ≤ 2 ^ 50 ∧ y.natAbs ≤ 2 ^ 50 ∧ z.natAbs ≤ 2 ^ 50) : ∀ e : Ex, okX Q3 e → (valX (g3 x y z) e).natAbs ≤ 2 ^ (50 * lvX e)
  | .num n, h => by
    have : n < 1000 := h
    have h2 : (2 : Nat) ^ (50 * 1) = 1125899906842624 := by decide
    show ((n : Int)).natAbs ≤ 2 ^ (50 * 1)
    omega
  | .box l, h => by
    show (g3 x y z l).natAbs ≤ 2 ^ (50 * 1)
    rw [Nat.mul_one]
    unfold g3
    split
    · exact hx.1
    · split
      · exact hx.2.1
      · exact hx.2.2
  | .op c a b, h => ap_bnd (val_bnd x y z hx a h.2.1) (val_bnd x y z hx b h.2.2) (lv_pos a) (lv_pos b)
theorem worth_ok (x y z : Int) (hx : x.natAbs ≤ 2 ^ 50 ∧ y.natAbs ≤ 2 ^ 50 ∧ z.natAbs ≤ 2 ^ 50) : ∀ (e : Ex) (n : Nat), depX e < n → okX Q3 e → lvX e ≤ 60 → F_worth n [encX e, gD3 x y z] = some (tI (valX (g3 x y z) e), [some (encX e), some (gD3 x y z)]) := by
  intro e
  induction e with
  | num m =>
    intro n hn _ _
    cases n with
    | zero => omega
    | succ n =>
      apply ok_is
      have e1 : dEq (tS "number") (tS "number") = some (.v (.bl true)) := rfl
      unfold encX
      simp [ok_some, ok_none, br_true, br_false, req_true, req_false, okFz_b, dAdd_lst, dAdd_tp, take_nil, take_ex, take_bo, put_nil, put_bo, put_ex, outs, fxOf, ofStr_inj, dAdd_int, dSub_eq, clean, cleans, isN, dDictD_1, itemsS_1, dJoin_1, dStrF_1, dAdd_str, mPairs_nil, mPairs_cons, dMin2_1, dMax2_1, dAbs_1, dIntF_1, dIntF_2, isDic_d, isDic_v, isDic_t, isDic_l, dKey_i, dKey_s, dKx_i, dKx_s, dKin_i, dKin_s, getD_nil, getD_cons, hasK_nil, hasK_cons, putD_eq, mergeD_nil, mergeD_cons, dInF, dFdiv_eq, dMod_eq, dMul_r, dMul_l, dPow_eq, dShr_eq, dLt_eq, dLe_eq, dGt_eq, dGe_eq, dEq_int, dNe_int, dEq_bl, dNe_bl, dEq_str, dNe_str, atI_z, atI_lit, atI_n, ixN_lit, ixN_n, fz, fzs, fzO, wipeD, dIx_l, dIx_t, gNl_1, csK_1, gCs_1, gTu_1, itemsL_1, itemsT_1, mRng_1, mRng_2, dTup_1, dLst_1, setSlot_1, setK_1, gNm_1, dLen_l, dLen_t, dTuple_l, dTuple_t, dList_l, dList_t, oNo_1, oK_1, slK_1, slK1_1, slK2_1, dCut_l, dCut_t, isi_bool_bool, isi_bool_int, isi_bool_str, isi_bool_tuple, isi_bool_list, isi_int_bool, isi_int_int, isi_int_str, isi_int_tuple, isi_int_list, isi_str_bool, isi_str_int, isi_str_str, isi_str_tuple, isi_str_list, isi_tuple_bool, isi_tuple_int, isi_tuple_str, isi_tuple_tuple, isi_tuple_list, isi_list_bool, isi_list_int, isi_list_str, isi_list_tuple, isi_list_list, isi_nonetype_bool, isi_nonetype_int, isi_nonetype_str, isi_nonetype_tuple, isi_nonetype_list, isi_T, F_worth, m_worth, e1]
      exact ⟨rfl, rfl⟩
  | box l =>
    intro n hnn hj _
    have hl : l ∈ nm3 := by
      have : l = [97] ∨ l = [98, 98] ∨ l = [99] := hj
      simpa using this
    have hg := gD_get x y z hl
    have hDd : isDic (some (some (gD3 x y z))) = true := rfl
    have hcd : clean (gD3 x y z) = false := rfl
    have hcl := @clean_C1 l
    cases n with
    | zero => omega
    | succ n =>
      apply ok_is
      obtain ⟨GD, hGD⟩ : ∃ GD, gD3 x y z = GD := ⟨_, rfl⟩
      rw [hGD] at hg hDd hcd ⊢
      unfold encX
      simp [ok_some, ok_none, br_true, br_false, req_true, req_false, okFz_b, dAdd_lst, dAdd_tp, take_nil, take_ex, take_bo, put_nil, put_bo, put_ex, outs, fxOf, ofStr_inj, dAdd_int, dSub_eq, clean, cleans, isN, dDictD_1, itemsS_1, dJoin_1, dStrF_1, dAdd_str, mPairs_nil, mPairs_cons, dMin2_1, dMax2_1, dAbs_1, dIntF_1, dIntF_2, isDic_d, isDic_v, isDic_t, isDic_l, dKey_i, dKey_s, dKx_i, dKx_s, dKin_i, dKin_s, getD_nil, getD_cons, hasK_nil, hasK_cons, putD_eq, mergeD_nil, mergeD_cons, dInF, dFdiv_eq, dMod_eq, dMul_r, dMul_l, dPow_eq, dShr_eq, dLt_eq, dLe_eq, dGt_eq, dGe_eq, dEq_int, dNe_int, dEq_bl, dNe_bl, dEq_str, dNe_str, atI_z, atI_lit, atI_n, ixN_lit, ixN_n, fz, fzs, fzO, wipeD, dIx_l, dIx_t, gNl_1, csK_1, gCs_1, gTu_1, itemsL_1, itemsT_1, mRng_1, mRng_2, dTup_1, dLst_1, setSlot_1, setK_1, gNm_1, dLen_l, dLen_t, dTuple_l, dTuple_t, dList_l, dList_t, oNo_1, oK_1, slK_1, slK1_1, slK2_1, dCut_l, dCut_t, isi_bool_bool, isi_bool_int, isi_bool_str, isi_bool_tuple, isi_bool_list, isi_int_bool, isi_int_int, isi_int_str, isi_int_tuple, isi_int_list, isi_str_bool, isi_str_int, isi_str_str, isi_str_tuple, isi_str_list, isi_tuple_bool, isi_tuple_int, isi_tuple_str, isi_tuple_tuple, isi_tuple_list, isi_list_bool, isi_list_int, isi_list_str, isi_list_tuple, isi_list_list, isi_nonetype_bool, isi_nonetype_int, isi_nonetype_str, isi_nonetype_tuple, isi_nonetype_list, isi_T, F_worth, m_worth, hcl, hDd, hcd]
      refine okFn_l ?_
      simp [ok_some, ok_none, br_true, br_false, req_true, req_false, okFz_b, dAdd_lst, dAdd_tp, take_nil, take_ex, take_bo, put_nil, put_bo, put_ex, outs, fxOf, ofStr_inj, dAdd_int, dSub_eq, clean, cleans, isN, dDictD_1, itemsS_1, dJoin_1, dStrF_1, dAdd_str, mPairs_nil, mPairs_cons, dMin2_1, dMax2_1, dAbs_1, dIntF_1, dIntF_2, isDic_d, isDic_v, isDic_t, isDic_l, dKey_i, dKey_s, dKx_i, dKx_s, dKin_i, dKin_s, getD_nil, getD_cons, hasK_nil, hasK_cons, putD_eq, mergeD_nil, mergeD_cons, dInF, dFdiv_eq, dMod_eq, dMul_r, dMul_l, dPow_eq, dShr_eq, dLt_eq, dLe_eq, dGt_eq, dGe_eq, dEq_int, dNe_int, dEq_bl, dNe_bl, dEq_str, dNe_str, atI_z, atI_lit, atI_n, ixN_lit, ixN_n, fz, fzs, fzO, wipeD, dIx_l, dIx_t, gNl_1, csK_1, gCs_1, gTu_1, itemsL_1, itemsT_1, mRng_1, mRng_2, dTup_1, dLst_1, setSlot_1, setK_1, gNm_1, dLen_l, dLen_t, dTuple_l, dTuple_t, dList_l, dList_t, oNo_1, oK_1, slK_1, slK1_1, slK2_1, dCut_l, dCut_t, isi_bool_bool, isi_bool_int, isi_bool_str, isi_bool_tuple, isi_bool_list, isi_int_bool, isi_int_int, isi_int_str, isi_int_tuple, isi_int_list, isi_str_bool, isi_str_int, isi_str_str, isi_str_tuple, isi_str_list, isi_tuple_bool, isi_tuple_int, isi_tuple_str, isi_tuple_tuple, isi_tuple_list, isi_list_bool, isi_list_int, isi_list_str, isi_list_tuple, isi_list_list, isi_nonetype_bool, isi_nonetype_int, isi_nonetype_str, isi_nonetype_tuple, isi_nonetype_list, isi_T, hcl, hDd, hcd, hg]
      exact ⟨rfl, rfl⟩
  | op c a b iha ihb =>
    intro n hn hok h5
    simp only [depX] at hn
    simp only [lvX] at h5
    have la := lv_pos a
    have lb := lv_pos b
    cases n with
    | zero => omega
    | succ n =>
      have e1 := iha n (by omega) hok.2.1 (by omega)
      have e2 := ihb n (by omega) hok.2.2 (by omega)
      have b1 := val_bnd x y z hx a hok.2.1
      have b2 := val_bnd x y z hx b hok.2.2
      have hm := dMul_big b1 b2 (by omega) (by omega)
      have c1 := clean_X a
      have c2 := clean_X b
      have c3 := @clean_C1 [c]
      have en : dEq (tC [c]) (tS "number") = some (.v (.bl false)) := (str_eq (x := "number") (m := [110, 117, 109, 98, 101, 114]) (by decide +kernel) [c]).trans (by rw [decide_eq_false (by simp)])
      have eb : dEq (tC [c]) (tS "box") = some (.v (.bl false)) := (str_eq (x := "box") (m := [98, 111, 120]) (by decide +kernel) [c]).trans (by rw [decide_eq_false (by simp)])
      have ep := one_eq op_ofS.1 [c]
      have em := one_eq op_ofS.2.1 [c]
      have hcd : clean (gD3 x y z) = false := rfl
      obtain ⟨GD, hGD⟩ : ∃ GD, gD3 x y z = GD := ⟨_, rfl⟩
      rw [hGD] at e1 e2 hcd ⊢
      apply ok_is
      unfold encX
      have hv : valX (g3 x y z) (.op c a b) = ap c (valX (g3 x y z) a) (valX (g3 x y z) b) := rfl
      have he : encX (.op c a b) = .tup [tC [c], encX a, encX b] := rfl
      rw [hv]
      unfold ap
      rcases hok.1 with rfl | rfl | rfl
      all_goals
        simp only [List.cons.injEq, and_true, decide_true, decide_false, reduceCtorEq, Nat.reduceEqDiff] at ep em
        simp [ok_some, ok_none, br_true, br_false, req_true, req_false, okFz_b, dAdd_lst, dAdd_tp, take_nil, take_ex, take_bo, put_nil, put_bo, put_ex, outs, fxOf, ofStr_inj, dAdd_int, dSub_eq, clean, cleans, isN, dDictD_1, itemsS_1, dJoin_1, dStrF_1, dAdd_str, mPairs_nil, mPairs_cons, dMin2_1, dMax2_1, dAbs_1, dIntF_1, dIntF_2, isDic_d, isDic_v, isDic_t, isDic_l, dKey_i, dKey_s, dKx_i, dKx_s, dKin_i, dKin_s, getD_nil, getD_cons, hasK_nil, hasK_cons, putD_eq, mergeD_nil, mergeD_cons, dInF, dFdiv_eq, dMod_eq, dMul_r, dMul_l, dPow_eq, dShr_eq, dLt_eq, dLe_eq, dGt_eq, dGe_eq, dEq_int, dNe_int, dEq_bl, dNe_bl, dEq_str, dNe_str, atI_z, atI_lit, atI_n, ixN_lit, ixN_n, fz, fzs, fzO, wipeD, dIx_l, dIx_t, gNl_1, csK_1, gCs_1, gTu_1, itemsL_1, itemsT_1, mRng_1, mRng_2, dTup_1, dLst_1, setSlot_1, setK_1, gNm_1, dLen_l, dLen_t, dTuple_l, dTuple_t, dList_l, dList_t, oNo_1, oK_1, slK_1, slK1_1, slK2_1, dCut_l, dCut_t, isi_bool_bool, isi_bool_int, isi_bool_str, isi_bool_tuple, isi_bool_list, isi_int_bool, isi_int_int, isi_int_str, isi_int_tuple, isi_int_list, isi_str_bool, isi_str_int, isi_str_str, isi_str_tuple, isi_str_list, isi_tuple_bool, isi_tuple_int, isi_tuple_str, isi_tuple_tuple, isi_tuple_list, isi_list_bool, isi_list_int, isi_list_str, isi_list_tuple, isi_list_list, isi_nonetype_bool, isi_nonetype_int, isi_nonetype_str, isi_nonetype_tuple, isi_nonetype_list, isi_T, F_worth, m_worth, e1, e2, c1, c2, c3, en, eb, ep, em, hcd, hm]
        rfl
end My
set_option exponentiation.threshold 10000
namespace My
open PySem L2 Z
theorem app_tl (a b : Str) : (a ++ b).cps.toList = a.cps.toList ++ b.cps.toList := by
  have e : (a ++ b).cps = a.cps ++ b.cps := rfl
  rw [e]; simp
theorem strs_Tk : ∀ T : List Tk, strsD (T.map encTk) = some (T.map fun t => (⟨(sgT t).toArray⟩ : Str))
  | [] => rfl
  | t :: T => by
    rw [List.map_cons, List.map_cons]
    show (match strsD (T.map encTk) with | some t' => some ((⟨(sgT t).toArray⟩ : Str) :: t') | none => none) = _
    rw [strs_Tk T]
theorem join_sg : ∀ T : List Tk, (Txt.join (Str.ofString "") (T.map fun t => (⟨(sgT t).toArray⟩ : Str))).cps.toList = sg T
  | [] => by rw [TL.join_eq]; rfl
  | [t] => by rw [TL.join_eq, sg_cons]; simp [Str.join, sg]
  | t :: u :: T => by
    have ih := join_sg (u :: T)
    rw [TL.join_eq] at ih ⊢
    rw [sg_cons, ← ih]
    show ((⟨(sgT t).toArray⟩ : Str) ++ Str.ofString "" ++ Str.join (Str.ofString "") _).cps.toList = _
    rw [app_tl, app_tl, ofS_nil]
    simp
theorem tk_len {t : Tk} (h : tkOk t) : 1 ≤ (sgT t).length ∧ (sgT t).length ≤ 3 ∧ ∀ c ∈ sgT t, c < 128 := by
  cases t with
  | lp => exact ⟨by decide, by decide, by decide⟩
  | rp => exact ⟨by decide, by decide, by decide⟩
  | op c =>
    have : opC c := h
    refine ⟨by simp [sgT], by simp [sgT], fun x hx => ?_⟩
    have hx : x = c := by simpa [sgT] using hx
    subst hx
    unfold opC at this; omega
  | num n =>
    have hp := numP_run n (List.mem_range.mpr h)
    unfold numP at hp
    simp only [Bool.and_eq_true, decide_eq_true_eq] at hp
    obtain ⟨⟨p1, p2⟩, _⟩ := hp
    show 1 ≤ (sN (n : Int)).cps.toList.length ∧ (sN (n : Int)).cps.toList.length ≤ 3 ∧ ∀ c ∈ (sN (n : Int)).cps.toList, c < 128
    obtain ⟨L, hL⟩ : ∃ L, (sN (n : Int)).cps.toList = L := ⟨_, rfl⟩
    rw [hL] at p1 p2 ⊢
    refine ⟨?_, ?_, fun c hc => ?_⟩
    · match L, p1 with
      | [a], _ => simp
      | [a, b], _ => simp
      | [a, b, c], _ => simp
    · match L, p1 with
      | [a], _ => simp
      | [a, b], _ => simp
      | [a, b, c], _ => simp
    · have := of_decide_eq_true (List.all_eq_true.mp p2 c hc)
      omega
  | nm l =>
    have : l = [97] ∨ l = [98, 98] ∨ l = [99] := h
    rcases this with rfl | rfl | rfl
    · exact ⟨by decide, by decide, by decide⟩
    · exact ⟨by decide, by decide, by decide⟩
    · exact ⟨by decide, by decide, by decide⟩
theorem sg_all : ∀ T : List Tk, (∀ t ∈ T, tkOk t) → T.length ≤ (sg T).length ∧ (sg T).length ≤ 3 * T.length ∧ (∀ c ∈ sg T, c < 128) ∧ ((T.map fun t => (⟨(sgT t).toArray⟩ : Str)).map (·.length)).sum = (sg T).length
  | [], _ => ⟨Nat.le_refl _, Nat.le_refl _, (fun c h => nomatch h), rfl⟩
  | t :: T, h => by
    obtain ⟨h1, h2, h3⟩ := tk_len (h t (by simp))
    obtain ⟨i1, i2, i3, i4⟩ := sg_all T fun x hx => h x (by simp [hx])
    rw [sg_cons, List.length_append, List.length_cons, List.map_cons, List.map_cons, List.sum_cons, i4]
    refine ⟨by omega, by omega, fun c hc => ?_, rfl⟩
    rcases List.mem_append.mp hc with h | h
    · exact h3 c h
    · exact i3 c h
theorem join_ok (T : List Tk) (hT : ∀ t ∈ T, tkOk t) (hTl : T.length ≤ 1000) (o : O) : dJoin (Str.ofString "") [.lst o (T.map encTk)] = some (tC (sg T)) := by
  obtain ⟨i1, i2, i3, i4⟩ := sg_all T hT
  unfold dJoin
  simp only [strs_Tk]
  rw [i4, if_pos]
  · have := join_sg T
    unfold tC
    rw [← this, Array.toArray_toList]
  · rw [ofS_nil, List.length_map]
    show (sg T).length + T.length * 0 ≤ _
    omega
theorem law_true (sc : List Int) (h : sc.length ≤ 63) : ∃ os, F_law [.lst .ext (intsD sc)] = some (.v (.bl true), os) := by
  suffices hh : @Ok _ (F_law [.lst .ext (intsD sc)]) ⟨(fun r => @Leaf _ r ⟨fun r => (r.1 = .v (.bl true))⟩)⟩ by
    obtain ⟨⟨d, os⟩, e, h0⟩ := hh
    have := h0.out
    simp only at this
    subst this
    exact ⟨os, e⟩
  have hcs := cleans_ints sc
  have hcut : cutL (intsD sc) none (some 63) = intsD sc := by
    have := cut_take (intsD sc) 63
    rw [show ((63 : Nat) : Int) = 63 from rfl] at this
    rw [this, List.take_of_length_le (by simp [intsD]; omega)]
  have hfs := fzs_clean hcs
  simp [ok_some, ok_none, br_true, br_false, req_true, req_false, okFz_b, dAdd_lst, dAdd_tp, take_nil, take_ex, take_bo, put_nil, put_bo, put_ex, outs, fxOf, ofStr_inj, dAdd_int, dSub_eq, clean, cleans, isN, dDictD_1, itemsS_1, dJoin_1, dStrF_1, dAdd_str, mPairs_nil, mPairs_cons, dMin2_1, dMax2_1, dAbs_1, dIntF_1, dIntF_2, isDic_d, isDic_v, isDic_t, isDic_l, dKey_i, dKey_s, dKx_i, dKx_s, dKin_i, dKin_s, getD_nil, getD_cons, hasK_nil, hasK_cons, putD_eq, mergeD_nil, mergeD_cons, dInF, dFdiv_eq, dMod_eq, dMul_r, dMul_l, dPow_eq, dShr_eq, dLt_eq, dLe_eq, dGt_eq, dGe_eq, dEq_int, dNe_int, dEq_bl, dNe_bl, dEq_str, dNe_str, atI_z, atI_lit, atI_n, ixN_lit, ixN_n, fz, fzs, fzO, wipeD, dIx_l, dIx_t, gNl_1, csK_1, gCs_1, gTu_1, itemsL_1, itemsT_1, mRng_1, mRng_2, dTup_1, dLst_1, setSlot_1, setK_1, gNm_1, dLen_l, dLen_t, dTuple_l, dTuple_t, dList_l, dList_t, oNo_1, oK_1, slK_1, slK1_1, slK2_1, dCut_l, dCut_t, isi_bool_bool, isi_bool_int, isi_bool_str, isi_bool_tuple, isi_bool_list, isi_int_bool, isi_int_int, isi_int_str, isi_int_tuple, isi_int_list, isi_str_bool, isi_str_int, isi_str_str, isi_str_tuple, isi_str_list, isi_tuple_bool, isi_tuple_int, isi_tuple_str, isi_tuple_tuple, isi_tuple_list, isi_list_bool, isi_list_int, isi_list_str, isi_list_tuple, isi_list_list, isi_nonetype_bool, isi_nonetype_int, isi_nonetype_str, isi_nonetype_tuple, isi_nonetype_list, isi_T, F_law, m_law, m_law_0, hcs, hcut, hfs]
  refine ok_forI tI sc (fun pre ds => ∃ x1 x2 x3 x4 x5 : Option D, ds = [some (.lst .ext (intsD sc)), x1, x2, x3, x4, x5]) ⟨_, _, _, _, _, rfl⟩ ?_ ?_
  · rintro pre cell rest _ hx ⟨x1, x2, x3, x4, x5, rfl⟩
    obtain ⟨T, eP, hT, hwf, hTl, hnl⟩ := parts_ok cell
    obtain ⟨f, eS, hf0, hf1⟩ := stir_ok cell 40 (by decide) (by decide)
    have hcT := cleans_Tk T
    have hfT := fzs_clean hcT
    obtain ⟨i1, i2, i3, i4⟩ := sg_all T hT
    have ej := fun o => join_ok T hT hTl o
    have hcw := @clean_C1 (sg T)
    have hfw := @fz_C1 (sg T)
    have el : dLen [tC (sg T)] = some (tN (sg T).length) := dLen_s (z := ⟨⟨sg T⟩⟩) (by rw [len_l]; omega)
    have hfb : f < 18446744073709551616 ∧ -18446744073709551616 < f := by omega
    obtain ⟨TL, hTL⟩ : ∃ TL, T.map encTk = TL := ⟨_, rfl⟩
    have hda : Str.ofString "a" = ⟨#[97]⟩ ∧ Str.ofString "bb" = ⟨#[98, 98]⟩ ∧ Str.ofString "c" = ⟨#[99]⟩ := by decide +kernel
    have hd : ∀ x5 : Option D, mDisp [((mC (.str "a")), (mOp dSub (mOp dMod (mVar 4) (mC (.int 41))) (mC (.int 20)))), ((mC (.str "bb")), (mOp dSub (mOp dMod (mOp dFdiv (mVar 4) (mC (.int 41))) (mC (.int 2001))) (mC (.int 1000)))), ((mC (.str "c")), (mOp dMod (mOp dFdiv (mVar 4) (mC (.int 100000))) (mC (.int 200))))] [some (.lst .ext (intsD sc)), some (tI cell), some (.lst .fro TL), some (tC (sg T)), some (tI f), x5] = some (gD3 (f % 41 - 20) (f / 41 % 2001 - 1000) (f / 100000 % 200), [some (.lst .ext (intsD sc)), some (tI cell), some (.lst .fro TL), some (tC (sg T)), some (tI f), x5]) := fun x5 => by
      rw [hda.1, hda.2.1, hda.2.2]
      have hb2 : f / 41 < 18446744073709551616 ∧ -18446744073709551616 < f / 41 := by omega
      have hb3 : f / 100000 < 18446744073709551616 ∧ -18446744073709551616 < f / 100000 := by omega
      simp [fnM_k, mSeq_k, mIf_k, mIfE_k, mOp_k, mLook_k, mVar_k, mMove_k, mTst_k, mAnd_k, mOr_k, mNot_k, mAndV_k, mOrV_k, mNotV_k, mNeg_k, mAsg_k, mRet_k, mRetN, mDrop_k, mSkip, mC, mK, mCons_k, mNil, mFn_k, mSetIx_k, mAug_k, mAppend_k, mAsgT_k, mIt_k, mRngA_k, mFor_k, mLc_k, mCall_k, mArgs_nil, mArgs_ex, mArgs_bo, take_nil, take_ex, take_bo, put_nil, put_bo, put_ex, outs, fxOf, ofStr_inj, dAdd_int, dSub_eq, clean, cleans, mIsN_k, mIsNV_k, isN, mPutK_k, mNewK_k, dDictD_1, mFrz_k, orFz_k, fzAt_k, mPar_k, mEnum_k, mZip_k, mLookL_k, mMt_k, itemsS_1, dJoin_1, dStrF_1, dAdd_str, mChn_k, mRev_k, mExtend_k, mPop_k, mClear_k, mLookA_k, mLookR_k, mInV_k, mPairs_nil, mPairs_cons, mDisp_k, dMin2_1, dMax2_1, dAbs_1, dIntF_1, dIntF_2, isDic_d, isDic_v, isDic_t, isDic_k, isDic_l, dKey_i, dKey_s, dKx_i, dKx_s, dKin_i, dKin_s, getD_nil, getD_cons, hasK_nil, hasK_cons, putD_eq, mergeD_nil, mergeD_cons, dInF, dFdiv_eq, dMod_eq, dMul_r, dMul_l, dPow_eq, dShr_eq, dLt_eq, dLe_eq, dGt_eq, dGe_eq, dEq_int, dNe_int, dEq_bl, dNe_bl, dEq_str, dNe_str, atI_z, atI_lit, atI_n, ixN_lit, ixN_n, fz, fzs, fzO, mYes, wipeD, mBrk, mCnt, seqK_1, seqK_2, seqK_3, seqK_4, seqK_5, ifK_1, ifK_2, ifK_3, opK3_1, opK3_2, opK2_1, opK2_2, opK_1, opK_2, lookK3_1, lookK3_2, lookK2_1, lookK2_2, lookK1_1, lookK1_2, lookK_1, lookK_2, varK_1, varK_2, moveK_1, moveK_2, tstK_1, tstK_2, andK_1, andK_2, andK_3, orK_1, orK_2, orK_3, notK_1, notK_2, andVK_1, andVK_2, andVK_3, orVK_1, orVK_2, orVK_3, notVK_1, notVK_2, negK_1, negK_2, asgK_1, asgK_2, retK_1, retK_2, dropK_1, dropK_2, consK2_1, consK2_2, consK_1, consK_2, fnK_1, fnK_2, setIxK3_1, setIxK3_2, setIxK2_1, setIxK2_2, setIxK1_1, setIxK1_2, setIxK0_1, setIxK0_2, setIxK_1, setIxK_2, augK2_1, augK2_2, augK_1, augK_2, appendK1_1, appendK1_2, appendK0_1, appendK0_2, appendK_1, appendK_2, asgTK2_1, asgTK2_2, asgTK_1, asgTK_2, itK2_1, itK2_2, itK_1, itK_2, rngK_1, rngK_2, forK_1, forK_2, turnK_1, turnK_2, turnK_3, turnK_4, turnK_5, turnK0_1, turnK0_2, lcK1_1, lcK1_2, lcK_1, lcK_2, lcT2_1, lcT2_2, lcT1_1, lcT1_2, lcT1_3, lcT0_1, lcT0_2, callK2_1, callK2_2, callK1_1, callK1_2, callK_1, callK_2, argK2_1, argK2_2, argK_1, argK_2, argB_1, argB_2, takeK_1, takeK_2, takeB_1, takeB_2, fnMK_1, fnMK_2, fnMK_3, isNK_1, isNK_2, isNVK_1, isNVK_2, chnK3_1, chnK3_2, chnK2_1, chnK2_2, chnK_1, chnK_2, revK_1, revK_2, extendK1_1, extendK1_2, extendK0_1, extendK0_2, extendK0_3, extendK_1, extendK_2, popK2_1, popK2_2, popK_1, popK_2, clearK_1, clearK_2, lookAK_1, lookAK_2, lookRK2_1, lookRK2_2, lookRK_1, lookRK_2, inVK_1, inVK_2, pairsK4_1, pairsK4_2, pairsK3_1, pairsK3_2, pairsK2_1, pairsK2_2, pairsK_1, pairsK_2, dispK2_1, dispK2_2, dispK_1, dispK_2, mergeK__1, mergeK__2, parK2_1, parK2_2, parK_1, parK_2, enumK_1, enumK_2, zipK_1, zipK_2, lookLK_1, lookLK_2, mtK2_1, mtK2_2, mtK_1, mtK_2, orFzK_1, orFzK_2, fzAtK_1, fzAtK_2, frzK_1, frzK_2, putKK5_1, putKK5_2, putKK4_1, putKK4_2, putKK3_1, putKK3_2, putKK2_1, putKK2_2, putKK1_1, putKK1_2, putKK_1, putKK_2, dIx_l, dIx_t, dIx_k, gNl_1, csK_1, gCs_1, gTu_1, itemsL_1, itemsT_1, mRng_1, mRng_2, dTup_1, dLst_1, setSlot_1, setK_1, gNm_1, dLen_l, dLen_t, dTuple_l, dTuple_t, dList_l, dList_t, oNo_1, oYes_k, oK_1, mSl_k, slK_1, slK1_1, slK2_1, dCut_l, dCut_t, hfb, hb2, hb3]
      rfl
    have hxyz : (f % 41 - 20).natAbs ≤ 2 ^ 50 ∧ (f / 41 % 2001 - 1000).natAbs ≤ 2 ^ 50 ∧ (f / 100000 % 200).natAbs ≤ 2 ^ 50 := by
      have : (2 : Nat) ^ 50 = 1125899906842624 := by decide
      omega
    obtain ⟨X, hX⟩ : ∃ X, f % 41 - 20 = X := ⟨_, rfl⟩
    obtain ⟨Y, hY⟩ : ∃ Y, f / 41 % 2001 - 1000 = Y := ⟨_, rfl⟩
    obtain ⟨Zz, hZ⟩ : ∃ Zz, f / 100000 % 200 = Zz := ⟨_, rfl⟩
    rw [hX, hY, hZ] at hxyz
    rw [hX, hY, hZ] at hd
    obtain ⟨e, hpe, hok, hlv, N1, S1, hs1, hs2⟩ := parts_read (Q := Q3) (fun l hl => by rcases hl with rfl | rfl | rfl <;> decide) (g3 X Y Zz) T hwf
    have hcd : clean (gD3 X Y Zz) = false := rfl
    rw [hTL] at eP hcT hfT ej
    have hvs := val_bnd X Y Zz hxyz e hok
    have eW := worth_ok X Y Zz hxyz e 12 (by have := dep_lv e; omega) hok (by omega)
    have hcx := clean_X e
    have hfx := fz_clean hcx
    obtain ⟨GD, hGD⟩ : ∃ GD, gD3 X Y Zz = GD := ⟨_, rfl⟩
    rw [hGD] at hd hcd eW
    simp [ok_some, ok_none, br_true, br_false, req_true, req_false, okFz_b, dAdd_lst, dAdd_tp, take_nil, take_ex, take_bo, put_nil, put_bo, put_ex, outs, fxOf, ofStr_inj, dAdd_int, dSub_eq, clean, cleans, isN, dDictD_1, itemsS_1, dJoin_1, dStrF_1, dAdd_str, mPairs_nil, mPairs_cons, dMin2_1, dMax2_1, dAbs_1, dIntF_1, dIntF_2, isDic_d, isDic_v, isDic_t, isDic_l, dKey_i, dKey_s, dKx_i, dKx_s, dKin_i, dKin_s, getD_nil, getD_cons, hasK_nil, hasK_cons, putD_eq, mergeD_nil, mergeD_cons, dInF, dFdiv_eq, dMod_eq, dMul_r, dMul_l, dPow_eq, dShr_eq, dLt_eq, dLe_eq, dGt_eq, dGe_eq, dEq_int, dNe_int, dEq_bl, dNe_bl, dEq_str, dNe_str, atI_z, atI_lit, atI_n, ixN_lit, ixN_n, fz, fzs, fzO, wipeD, dIx_l, dIx_t, gNl_1, csK_1, gCs_1, gTu_1, itemsL_1, itemsT_1, mRng_1, mRng_2, dTup_1, dLst_1, setSlot_1, setK_1, gNm_1, dLen_l, dLen_t, dTuple_l, dTuple_t, dList_l, dList_t, oNo_1, oK_1, slK_1, slK1_1, slK2_1, dCut_l, dCut_t, isi_bool_bool, isi_bool_int, isi_bool_str, isi_bool_tuple, isi_bool_list, isi_int_bool, isi_int_int, isi_int_str, isi_int_tuple, isi_int_list, isi_str_bool, isi_str_int, isi_str_str, isi_str_tuple, isi_str_list, isi_tuple_bool, isi_tuple_int, isi_tuple_str, isi_tuple_tuple, isi_tuple_list, isi_list_bool, isi_list_int, isi_list_str, isi_list_tuple, isi_list_list, isi_nonetype_bool, isi_nonetype_int, isi_nonetype_str, isi_nonetype_tuple, isi_nonetype_list, isi_T, m_law_0_0, eP, m_law_0_1, ej, hcT, hfT, hcw, hfw, m_law_0_2, eS, m_law_0_3, ↓hd, m_law_0_4, el]
    refine br_mk (fun h60 => ?_) (fun h60 => ?_)
    · have eE := expr_read (sg T) (by omega) i3 e hpe
      have eD := due_ok X Y Zz hxyz T hT (by omega) _ N1 S1 hs1 hs2 .fro (.inr rfl)
      rw [hTL, hGD] at eD
      simp [ok_some, ok_none, br_true, br_false, req_true, req_false, okFz_b, dAdd_lst, dAdd_tp, take_nil, take_ex, take_bo, put_nil, put_bo, put_ex, outs, fxOf, ofStr_inj, dAdd_int, dSub_eq, clean, cleans, isN, dDictD_1, itemsS_1, dJoin_1, dStrF_1, dAdd_str, mPairs_nil, mPairs_cons, dMin2_1, dMax2_1, dAbs_1, dIntF_1, dIntF_2, isDic_d, isDic_v, isDic_t, isDic_l, dKey_i, dKey_s, dKx_i, dKx_s, dKin_i, dKin_s, getD_nil, getD_cons, hasK_nil, hasK_cons, putD_eq, mergeD_nil, mergeD_cons, dInF, dFdiv_eq, dMod_eq, dMul_r, dMul_l, dPow_eq, dShr_eq, dLt_eq, dLe_eq, dGt_eq, dGe_eq, dEq_int, dNe_int, dEq_bl, dNe_bl, dEq_str, dNe_str, atI_z, atI_lit, atI_n, ixN_lit, ixN_n, fz, fzs, fzO, wipeD, dIx_l, dIx_t, gNl_1, csK_1, gCs_1, gTu_1, itemsL_1, itemsT_1, mRng_1, mRng_2, dTup_1, dLst_1, setSlot_1, setK_1, gNm_1, dLen_l, dLen_t, dTuple_l, dTuple_t, dList_l, dList_t, oNo_1, oK_1, slK_1, slK1_1, slK2_1, dCut_l, dCut_t, isi_bool_bool, isi_bool_int, isi_bool_str, isi_bool_tuple, isi_bool_list, isi_int_bool, isi_int_int, isi_int_str, isi_int_tuple, isi_int_list, isi_str_bool, isi_str_int, isi_str_str, isi_str_tuple, isi_str_list, isi_tuple_bool, isi_tuple_int, isi_tuple_str, isi_tuple_tuple, isi_tuple_list, isi_list_bool, isi_list_int, isi_list_str, isi_list_tuple, isi_list_list, isi_nonetype_bool, isi_nonetype_int, isi_nonetype_str, isi_nonetype_tuple, isi_nonetype_list, isi_T, eE, hcx, hfx, hcw, hfw, eW, eD, hcT, hfT, hcd]
      exact Leaf.mk ⟨_, _, _, _, _, rfl⟩
    · simp [ok_some, ok_none, br_true, br_false, req_true, req_false, okFz_b, dAdd_lst, dAdd_tp, take_nil, take_ex, take_bo, put_nil, put_bo, put_ex, outs, fxOf, ofStr_inj, dAdd_int, dSub_eq, clean, cleans, isN, dDictD_1, itemsS_1, dJoin_1, dStrF_1, dAdd_str, mPairs_nil, mPairs_cons, dMin2_1, dMax2_1, dAbs_1, dIntF_1, dIntF_2, isDic_d, isDic_v, isDic_t, isDic_l, dKey_i, dKey_s, dKx_i, dKx_s, dKin_i, dKin_s, getD_nil, getD_cons, hasK_nil, hasK_cons, putD_eq, mergeD_nil, mergeD_cons, dInF, dFdiv_eq, dMod_eq, dMul_r, dMul_l, dPow_eq, dShr_eq, dLt_eq, dLe_eq, dGt_eq, dGe_eq, dEq_int, dNe_int, dEq_bl, dNe_bl, dEq_str, dNe_str, atI_z, atI_lit, atI_n, ixN_lit, ixN_n, fz, fzs, fzO, wipeD, dIx_l, dIx_t, gNl_1, csK_1, gCs_1, gTu_1, itemsL_1, itemsT_1, mRng_1, mRng_2, dTup_1, dLst_1, setSlot_1, setK_1, gNm_1, dLen_l, dLen_t, dTuple_l, dTuple_t, dList_l, dList_t, oNo_1, oK_1, slK_1, slK1_1, slK2_1, dCut_l, dCut_t, isi_bool_bool, isi_bool_int, isi_bool_str, isi_bool_tuple, isi_bool_list, isi_int_bool, isi_int_int, isi_int_str, isi_int_tuple, isi_int_list, isi_str_bool, isi_str_int, isi_str_str, isi_str_tuple, isi_str_list, isi_tuple_bool, isi_tuple_int, isi_tuple_str, isi_tuple_tuple, isi_tuple_list, isi_list_bool, isi_list_int, isi_list_str, isi_list_tuple, isi_list_list, isi_nonetype_bool, isi_nonetype_int, isi_nonetype_str, isi_nonetype_tuple, isi_nonetype_list, isi_T]
      exact Leaf.mk ⟨_, _, _, _, _, rfl⟩
  · rintro _ ⟨x1, x2, x3, x4, x5, rfl⟩
    simp [ok_some, ok_none, br_true, br_false, req_true, req_false, okFz_b, dAdd_lst, dAdd_tp, take_nil, take_ex, take_bo, put_nil, put_bo, put_ex, outs, fxOf, ofStr_inj, dAdd_int, dSub_eq, clean, cleans, isN, dDictD_1, itemsS_1, dJoin_1, dStrF_1, dAdd_str, mPairs_nil, mPairs_cons, dMin2_1, dMax2_1, dAbs_1, dIntF_1, dIntF_2, isDic_d, isDic_v, isDic_t, isDic_l, dKey_i, dKey_s, dKx_i, dKx_s, dKin_i, dKin_s, getD_nil, getD_cons, hasK_nil, hasK_cons, putD_eq, mergeD_nil, mergeD_cons, dInF, dFdiv_eq, dMod_eq, dMul_r, dMul_l, dPow_eq, dShr_eq, dLt_eq, dLe_eq, dGt_eq, dGe_eq, dEq_int, dNe_int, dEq_bl, dNe_bl, dEq_str, dNe_str, atI_z, atI_lit, atI_n, ixN_lit, ixN_n, fz, fzs, fzO, wipeD, dIx_l, dIx_t, gNl_1, csK_1, gCs_1, gTu_1, itemsL_1, itemsT_1, mRng_1, mRng_2, dTup_1, dLst_1, setSlot_1, setK_1, gNm_1, dLen_l, dLen_t, dTuple_l, dTuple_t, dList_l, dList_t, oNo_1, oK_1, slK_1, slK1_1, slK2_1, dCut_l, dCut_t, isi_bool_bool, isi_bool_int, isi_bool_str, isi_bool_tuple, isi_bool_list, isi_int_bool, isi_int_int, isi_int_str, isi_int_tuple, isi_int_list, isi_str_bool, isi_str_int, isi_str_str, isi_str_tuple, isi_str_list, isi_tuple_bool, isi_tuple_int, isi_tuple_str, isi_tuple_tuple, isi_tuple_list, isi_list_bool, isi_list_int, isi_list_str, isi_list_tuple, isi_list_list, isi_nonetype_bool, isi_nonetype_int, isi_nonetype_str, isi_nonetype_tuple, isi_nonetype_list, isi_T, m_law_1]
    exact Leaf.mk rfl
end My
namespace My
open PySem PySem.Spec PyProof.Rows L2 Z
theorem all_mk {l : PySem.W.OpenLaw} {w : World} {K : PySem.W.Frag} {h : Heap} {mg : Str → Option Value} {fa : Addr} (X : K.In h) (G : h.Ns mainGlobals mg) (hfa : mg "law" = some (.ref fa))
    {C_Cursor : Addr} (aC_Cursor : PySem.W.nsIn K mainGlobals "Cursor" = some (some (.ref C_Cursor))) (pg_Cursor : PySem.W.plainGet K C_Cursor Str.empty = true) (hd_Cursor : PySem.W.hasDictIn K C_Cursor = true) (po_Cursor : PySem.W.plainOver K C_Cursor = true) (sa_Cursor : PySem.W.findIn K (.ref C_Cursor) "__setattr__" = some (some (.builtin "object.__setattr__"))) (mk_Cursor : PySem.W.makesIn K C_Cursor = true) (kc_Cursor : PySem.W.keepIn K (.ref C_Cursor) = true)
    (nf_Cursor_word : PySem.W.findIn K (.ref C_Cursor) "word" = some none)
    (nf_Cursor_at : PySem.W.findIn K (.ref C_Cursor) "at" = some none)
    (nf_Cursor_deep : PySem.W.findIn K (.ref C_Cursor) "deep" = some none)
    {f__law_reckon : Addr} {od__law_reckon an__law_reckon : Option Addr} {sl__law_reckon : Array (Option Value)} {oc__law_reckon kV__law_reckon dc__law_reckon pm__law_reckon cd__law_reckon ct__law_reckon : Value}
    (a__law_reckon : PySem.W.nsIn K mainGlobals "_law_reckon" = some (some (.ref f__law_reckon))) (l__law_reckon : K.lookup f__law_reckon = some ⟨oc__law_reckon, od__law_reckon, .func (PySem.W.fnOf "_law_reckon" "_law_reckon" (defArgs s__law_reckon) (defBody s__law_reckon) (defScope s__law_reckon) .none kV__law_reckon dc__law_reckon pm__law_reckon an__law_reckon cd__law_reckon ct__law_reckon), sl__law_reckon⟩) (c__law_reckon : PySem.W.codeIn K cd__law_reckon "_law_reckon" = true) (k__law_reckon : PySem.W.keepIn K (.ref f__law_reckon) = true)
    {f__law_due : Addr} {od__law_due an__law_due : Option Addr} {sl__law_due : Array (Option Value)} {oc__law_due kV__law_due dc__law_due pm__law_due cd__law_due ct__law_due : Value}
    (a__law_due : PySem.W.nsIn K mainGlobals "_law_due" = some (some (.ref f__law_due))) (l__law_due : K.lookup f__law_due = some ⟨oc__law_due, od__law_due, .func (PySem.W.fnOf "_law_due" "_law_due" (defArgs s__law_due) (defBody s__law_due) (defScope s__law_due) .none kV__law_due dc__law_due pm__law_due an__law_due cd__law_due ct__law_due), sl__law_due⟩) (c__law_due : PySem.W.codeIn K cd__law_due "_law_due" = true) (k__law_due : PySem.W.keepIn K (.ref f__law_due) = true)
    {f__law_stir : Addr} {od__law_stir an__law_stir : Option Addr} {sl__law_stir : Array (Option Value)} {oc__law_stir kV__law_stir dc__law_stir pm__law_stir cd__law_stir ct__law_stir : Value}
    (a__law_stir : PySem.W.nsIn K mainGlobals "_law_stir" = some (some (.ref f__law_stir))) (l__law_stir : K.lookup f__law_stir = some ⟨oc__law_stir, od__law_stir, .func (PySem.W.fnOf "_law_stir" "_law_stir" (defArgs s__law_stir) (defBody s__law_stir) (defScope s__law_stir) .none kV__law_stir dc__law_stir pm__law_stir an__law_stir cd__law_stir ct__law_stir), sl__law_stir⟩) (c__law_stir : PySem.W.codeIn K cd__law_stir "_law_stir" = true) (k__law_stir : PySem.W.keepIn K (.ref f__law_stir) = true)
    {f__law_parts : Addr} {od__law_parts an__law_parts : Option Addr} {sl__law_parts : Array (Option Value)} {oc__law_parts kV__law_parts dc__law_parts pm__law_parts cd__law_parts ct__law_parts : Value}
    (a__law_parts : PySem.W.nsIn K mainGlobals "_law_parts" = some (some (.ref f__law_parts))) (l__law_parts : K.lookup f__law_parts = some ⟨oc__law_parts, od__law_parts, .func (PySem.W.fnOf "_law_parts" "_law_parts" (defArgs s__law_parts) (defBody s__law_parts) (defScope s__law_parts) .none kV__law_parts dc__law_parts pm__law_parts an__law_parts cd__law_parts ct__law_parts), sl__law_parts⟩) (c__law_parts : PySem.W.codeIn K cd__law_parts "_law_parts" = true) (k__law_parts : PySem.W.keepIn K (.ref f__law_parts) = true)
    {f_Cursor_here : Addr} {od_Cursor_here an_Cursor_here : Option Addr} {sl_Cursor_here : Array (Option Value)} {oc_Cursor_here kV_Cursor_here dc_Cursor_here pm_Cursor_here cd_Cursor_here ct_Cursor_here : Value}
    (a_Cursor_here : PySem.W.findIn K (.ref C_Cursor) "here" = some (some (.ref f_Cursor_here))) (i_Cursor_here : PySem.W.isFn K (.ref f_Cursor_here) = true) (l_Cursor_here : K.lookup f_Cursor_here = some ⟨oc_Cursor_here, od_Cursor_here, .func (PySem.W.fnOf "here" "Cursor.here" (defArgs s_Cursor_here) (defBody s_Cursor_here) (defScope s_Cursor_here) .none kV_Cursor_here dc_Cursor_here pm_Cursor_here an_Cursor_here cd_Cursor_here ct_Cursor_here), sl_Cursor_here⟩) (c_Cursor_here : PySem.W.codeIn K cd_Cursor_here "Cursor.here" = true) (k_Cursor_here : PySem.W.keepIn K (.ref f_Cursor_here) = true)
    {f_Cursor_init : Addr} {od_Cursor_init an_Cursor_init : Option Addr} {sl_Cursor_init : Array (Option Value)} {oc_Cursor_init kV_Cursor_init dc_Cursor_init pm_Cursor_init cd_Cursor_init ct_Cursor_init : Value}
    (a_Cursor_init : PySem.W.findIn K (.ref C_Cursor) "__init__" = some (some (.ref f_Cursor_init))) (i_Cursor_init : PySem.W.isFn K (.ref f_Cursor_init) = true) (l_Cursor_init : K.lookup f_Cursor_init = some ⟨oc_Cursor_init, od_Cursor_init, .func (PySem.W.fnOf "__init__" "Cursor.__init__" (defArgs s_Cursor_init) (defBody s_Cursor_init) (defScope s_Cursor_init) .none kV_Cursor_init dc_Cursor_init pm_Cursor_init an_Cursor_init cd_Cursor_init ct_Cursor_init), sl_Cursor_init⟩) (c_Cursor_init : PySem.W.codeIn K cd_Cursor_init "Cursor.__init__" = true) (k_Cursor_init : PySem.W.keepIn K (.ref f_Cursor_init) = true)
    {f_Cursor_bracket_told : Addr} {od_Cursor_bracket_told an_Cursor_bracket_told : Option Addr} {sl_Cursor_bracket_told : Array (Option Value)} {oc_Cursor_bracket_told kV_Cursor_bracket_told dc_Cursor_bracket_told pm_Cursor_bracket_told cd_Cursor_bracket_told ct_Cursor_bracket_told : Value}
    (a_Cursor_bracket_told : PySem.W.findIn K (.ref C_Cursor) "bracket_told" = some (some (.ref f_Cursor_bracket_told))) (i_Cursor_bracket_told : PySem.W.isFn K (.ref f_Cursor_bracket_told) = true) (l_Cursor_bracket_told : K.lookup f_Cursor_bracket_told = some ⟨oc_Cursor_bracket_told, od_Cursor_bracket_told, .func (PySem.W.fnOf "bracket_told" "Cursor.bracket_told" (defArgs s_Cursor_bracket_told) (defBody s_Cursor_bracket_told) (defScope s_Cursor_bracket_told) .none kV_Cursor_bracket_told dc_Cursor_bracket_told pm_Cursor_bracket_told an_Cursor_bracket_told cd_Cursor_bracket_told ct_Cursor_bracket_told), sl_Cursor_bracket_told⟩) (c_Cursor_bracket_told : PySem.W.codeIn K cd_Cursor_bracket_told "Cursor.bracket_told" = true) (k_Cursor_bracket_told : PySem.W.keepIn K (.ref f_Cursor_bracket_told) = true)
    {f_Cursor_taken : Addr} {od_Cursor_taken an_Cursor_taken : Option Addr} {sl_Cursor_taken : Array (Option Value)} {oc_Cursor_taken kV_Cursor_taken dc_Cursor_taken pm_Cursor_taken cd_Cursor_taken ct_Cursor_taken : Value}
    (a_Cursor_taken : PySem.W.findIn K (.ref C_Cursor) "taken" = some (some (.ref f_Cursor_taken))) (i_Cursor_taken : PySem.W.isFn K (.ref f_Cursor_taken) = true) (l_Cursor_taken : K.lookup f_Cursor_taken = some ⟨oc_Cursor_taken, od_Cursor_taken, .func (PySem.W.fnOf "taken" "Cursor.taken" (defArgs s_Cursor_taken) (defBody s_Cursor_taken) (defScope s_Cursor_taken) .none kV_Cursor_taken dc_Cursor_taken pm_Cursor_taken an_Cursor_taken cd_Cursor_taken ct_Cursor_taken), sl_Cursor_taken⟩) (c_Cursor_taken : PySem.W.codeIn K cd_Cursor_taken "Cursor.taken" = true) (k_Cursor_taken : PySem.W.keepIn K (.ref f_Cursor_taken) = true)
    {f_is_name : Addr} {od_is_name an_is_name : Option Addr} {sl_is_name : Array (Option Value)} {oc_is_name kV_is_name dc_is_name pm_is_name cd_is_name ct_is_name : Value}
    (a_is_name : PySem.W.nsIn K mainGlobals "is_name" = some (some (.ref f_is_name))) (l_is_name : K.lookup f_is_name = some ⟨oc_is_name, od_is_name, .func (PySem.W.fnOf "is_name" "is_name" (defArgs s_is_name) (defBody s_is_name) (defScope s_is_name) .none kV_is_name dc_is_name pm_is_name an_is_name cd_is_name ct_is_name), sl_is_name⟩) (c_is_name : PySem.W.codeIn K cd_is_name "is_name" = true) (k_is_name : PySem.W.keepIn K (.ref f_is_name) = true)
    {f_is_plain_number : Addr} {od_is_plain_number an_is_plain_number : Option Addr} {sl_is_plain_number : Array (Option Value)} {oc_is_plain_number kV_is_plain_number dc_is_plain_number pm_is_plain_number cd_is_plain_number ct_is_plain_number : Value}
    (a_is_plain_number : PySem.W.nsIn K mainGlobals "is_plain_number" = some (some (.ref f_is_plain_number))) (l_is_plain_number : K.lookup f_is_plain_number = some ⟨oc_is_plain_number, od_is_plain_number, .func (PySem.W.fnOf "is_plain_number" "is_plain_number" (defArgs s_is_plain_number) (defBody s_is_plain_number) (defScope s_is_plain_number) .none kV_is_plain_number dc_is_plain_number pm_is_plain_number an_is_plain_number cd_is_plain_number ct_is_plain_number), sl_is_plain_number⟩) (c_is_plain_number : PySem.W.codeIn K cd_is_plain_number "is_plain_number" = true) (k_is_plain_number : PySem.W.keepIn K (.ref f_is_plain_number) = true)
    {f_Cursor_factor_told : Addr} {od_Cursor_factor_told an_Cursor_factor_told : Option Addr} {sl_Cursor_factor_told : Array (Option Value)} {oc_Cursor_factor_told kV_Cursor_factor_told dc_Cursor_factor_told pm_Cursor_factor_told cd_Cursor_factor_told ct_Cursor_factor_told : Value}
    (a_Cursor_factor_told : PySem.W.findIn K (.ref C_Cursor) "factor_told" = some (some (.ref f_Cursor_factor_told))) (i_Cursor_factor_told : PySem.W.isFn K (.ref f_Cursor_factor_told) = true) (l_Cursor_factor_told : K.lookup f_Cursor_factor_told = some ⟨oc_Cursor_factor_told, od_Cursor_factor_told, .func (PySem.W.fnOf "factor_told" "Cursor.factor_told" (defArgs s_Cursor_factor_told) (defBody s_Cursor_factor_told) (defScope s_Cursor_factor_told) .none kV_Cursor_factor_told dc_Cursor_factor_told pm_Cursor_factor_told an_Cursor_factor_told cd_Cursor_factor_told ct_Cursor_factor_told), sl_Cursor_factor_told⟩) (c_Cursor_factor_told : PySem.W.codeIn K cd_Cursor_factor_told "Cursor.factor_told" = true) (k_Cursor_factor_told : PySem.W.keepIn K (.ref f_Cursor_factor_told) = true)
    {f_Cursor_term_told : Addr} {od_Cursor_term_told an_Cursor_term_told : Option Addr} {sl_Cursor_term_told : Array (Option Value)} {oc_Cursor_term_told kV_Cursor_term_told dc_Cursor_term_told pm_Cursor_term_told cd_Cursor_term_told ct_Cursor_term_told : Value}
    (a_Cursor_term_told : PySem.W.findIn K (.ref C_Cursor) "term_told" = some (some (.ref f_Cursor_term_told))) (i_Cursor_term_told : PySem.W.isFn K (.ref f_Cursor_term_told) = true) (l_Cursor_term_told : K.lookup f_Cursor_term_told = some ⟨oc_Cursor_term_told, od_Cursor_term_told, .func (PySem.W.fnOf "term_told" "Cursor.term_told" (defArgs s_Cursor_term_told) (defBody s_Cursor_term_told) (defScope s_Cursor_term_told) .none kV_Cursor_term_told dc_Cursor_term_told pm_Cursor_term_told an_Cursor_term_told cd_Cursor_term_told ct_Cursor_term_told), sl_Cursor_term_told⟩) (c_Cursor_term_told : PySem.W.codeIn K cd_Cursor_term_told "Cursor.term_told" = true) (k_Cursor_term_told : PySem.W.keepIn K (.ref f_Cursor_term_told) = true)
    {f_Cursor_sum_told : Addr} {od_Cursor_sum_told an_Cursor_sum_told : Option Addr} {sl_Cursor_sum_told : Array (Option Value)} {oc_Cursor_sum_told kV_Cursor_sum_told dc_Cursor_sum_told pm_Cursor_sum_told cd_Cursor_sum_told ct_Cursor_sum_told : Value}
    (a_Cursor_sum_told : PySem.W.findIn K (.ref C_Cursor) "sum_told" = some (some (.ref f_Cursor_sum_told))) (i_Cursor_sum_told : PySem.W.isFn K (.ref f_Cursor_sum_told) = true) (l_Cursor_sum_told : K.lookup f_Cursor_sum_told = some ⟨oc_Cursor_sum_told, od_Cursor_sum_told, .func (PySem.W.fnOf "sum_told" "Cursor.sum_told" (defArgs s_Cursor_sum_told) (defBody s_Cursor_sum_told) (defScope s_Cursor_sum_told) .none kV_Cursor_sum_told dc_Cursor_sum_told pm_Cursor_sum_told an_Cursor_sum_told cd_Cursor_sum_told ct_Cursor_sum_told), sl_Cursor_sum_told⟩) (c_Cursor_sum_told : PySem.W.codeIn K cd_Cursor_sum_told "Cursor.sum_told" = true) (k_Cursor_sum_told : PySem.W.keepIn K (.ref f_Cursor_sum_told) = true)
    {f_expression : Addr} {od_expression an_expression : Option Addr} {sl_expression : Array (Option Value)} {oc_expression kV_expression dc_expression pm_expression cd_expression ct_expression : Value}
    (a_expression : PySem.W.nsIn K mainGlobals "expression" = some (some (.ref f_expression))) (l_expression : K.lookup f_expression = some ⟨oc_expression, od_expression, .func (PySem.W.fnOf "expression" "expression" (defArgs s_expression) (defBody s_expression) (defScope s_expression) .none kV_expression dc_expression pm_expression an_expression cd_expression ct_expression), sl_expression⟩) (c_expression : PySem.W.codeIn K cd_expression "expression" = true) (k_expression : PySem.W.keepIn K (.ref f_expression) = true)
    {f_worth : Addr} {od_worth an_worth : Option Addr} {sl_worth : Array (Option Value)} {oc_worth kV_worth dc_worth pm_worth cd_worth ct_worth : Value}
    (a_worth : PySem.W.nsIn K mainGlobals "worth" = some (some (.ref f_worth))) (l_worth : K.lookup f_worth = some ⟨oc_worth, od_worth, .func (PySem.W.fnOf "worth" "worth" (defArgs s_worth) (defBody s_worth) (defScope s_worth) .none kV_worth dc_worth pm_worth an_worth cd_worth ct_worth), sl_worth⟩) (c_worth : PySem.W.codeIn K cd_worth "worth" = true) (k_worth : PySem.W.keepIn K (.ref f_worth) = true)
    {f_law : Addr} {od_law an_law : Option Addr} {sl_law : Array (Option Value)} {oc_law kV_law dc_law pm_law cd_law ct_law : Value}
    (a_law : PySem.W.nsIn K mainGlobals "law" = some (some (.ref f_law))) (l_law : K.lookup f_law = some ⟨oc_law, od_law, .func (PySem.W.fnOf "law" "law" (defArgs s_law) (defBody s_law) (defScope s_law) .none kV_law dc_law pm_law an_law cd_law ct_law), sl_law⟩) (c_law : PySem.W.codeIn K cd_law "law" = true) (k_law : PySem.W.keepIn K (.ref f_law) = true)
    (z_int : PySem.W.nsIn K mainGlobals "int" = some none)
    (z_len : PySem.W.nsIn K mainGlobals "len" = some none)
    (z_range : PySem.W.nsIn K mainGlobals "range" = some none)
    (z_str : PySem.W.nsIn K mainGlobals "str" = some none)
    {t_BARRED : Addr} {od_BARRED : Option Addr} {n_BARRED : Nat} {sl_BARRED : Array (Option Value)} {tk_BARRED_0 tk_BARRED_1 tk_BARRED_2 tk_BARRED_3 tk_BARRED_4 tk_BARRED_5 tk_BARRED_6 tk_BARRED_7 tk_BARRED_8 : Tok} (q_BARRED : PySem.W.nsIn K mainGlobals "BARRED" = some (some (.ref t_BARRED))) (r_BARRED : K.lookup t_BARRED = some ⟨.type "tuple", od_BARRED, .seq ([.str "box" tk_BARRED_0, .str "mark" tk_BARRED_1, .str "ask" tk_BARRED_2, .str "put" tk_BARRED_3, .str "go" tk_BARRED_4, .str "if" tk_BARRED_5, .str "stop" tk_BARRED_6, .str "in" tk_BARRED_7, .str "not" tk_BARRED_8] : List Value).toArray n_BARRED, sl_BARRED⟩)
    {tk_LETTERS : Tok} (q_LETTERS : PySem.W.nsIn K mainGlobals "LETTERS" = some (some (.str "abcdefghijklmnopqrstuvwxyz" tk_LETTERS)))
    {tk_FIGURES : Tok} (q_FIGURES : PySem.W.nsIn K mainGlobals "FIGURES" = some (some (.str "0123456789" tk_FIGURES)))
    {tk_LONGEST_NAME : Tok} (q_LONGEST_NAME : PySem.W.nsIn K mainGlobals "LONGEST_NAME" = some (some (.int 8 tk_LONGEST_NAME)))
    {tk_LONGEST_NUMBER : Tok} (q_LONGEST_NUMBER : PySem.W.nsIn K mainGlobals "LONGEST_NUMBER" = some (some (.int 3 tk_LONGEST_NUMBER)))
    {tk_MOST_SIGNS : Tok} (q_MOST_SIGNS : PySem.W.nsIn K mainGlobals "MOST_SIGNS" = some (some (.int 60 tk_MOST_SIGNS)))
    {tk_DEEPEST : Tok} (q_DEEPEST : PySem.W.nsIn K mainGlobals "DEEPEST" = some (some (.int 5 tk_DEEPEST)))
    : ∃ fd : FuncData, (∀ (s : Shared) (v : Value), BindsTo s fd ⟨[v], []⟩ [("script", v)]) ∧ ∀ base : Heap, K.In base → base.Ns mainGlobals mg → FnOk l.prog w K mg base CX0 53 fa fd ["script"] (Z.spLaw K) := by
  have e := hfa.symm.trans (PySem.W.mg_of X G a_law)
  cases e
  have zz_int := PySem.W.mg_none_of X G z_int
  have zz_len := PySem.W.mg_none_of X G z_len
  have zz_range := PySem.W.mg_none_of X G z_range
  have zz_str := PySem.W.mg_none_of X G z_str
  have qq_BARRED : KV ⟨K, w⟩ mg "BARRED" c_BARRED := kv_tup (xs := [.str "box", .str "mark", .str "ask", .str "put", .str "go", .str "if", .str "stop", .str "in", .str "not"]) (PySem.W.mg_of X G q_BARRED) r_BARRED (by simp only [List.length_cons, List.length_nil]; decide) (.cons ⟨_, rfl⟩ (.cons ⟨_, rfl⟩ (.cons ⟨_, rfl⟩ (.cons ⟨_, rfl⟩ (.cons ⟨_, rfl⟩ (.cons ⟨_, rfl⟩ (.cons ⟨_, rfl⟩ (.cons ⟨_, rfl⟩ (.cons ⟨_, rfl⟩ .nil))))))))) fun _ _ => (.v (.v (.v (.v (.v (.v (.v (.v (.v .nil)))))))))
  have qq_LETTERS : KV ⟨K, w⟩ mg "LETTERS" c_LETTERS := kv_str (PySem.W.mg_of X G q_LETTERS)
  have qq_FIGURES : KV ⟨K, w⟩ mg "FIGURES" c_FIGURES := kv_str (PySem.W.mg_of X G q_FIGURES)
  have qq_LONGEST_NAME : KV ⟨K, w⟩ mg "LONGEST_NAME" c_LONGEST_NAME := kv_int (PySem.W.mg_of X G q_LONGEST_NAME)
  have qq_LONGEST_NUMBER : KV ⟨K, w⟩ mg "LONGEST_NUMBER" c_LONGEST_NUMBER := kv_int (PySem.W.mg_of X G q_LONGEST_NUMBER)
  have qq_MOST_SIGNS : KV ⟨K, w⟩ mg "MOST_SIGNS" c_MOST_SIGNS := kv_int (PySem.W.mg_of X G q_MOST_SIGNS)
  have qq_DEEPEST : KV ⟨K, w⟩ mg "DEEPEST" c_DEEPEST := kv_int (PySem.W.mg_of X G q_DEEPEST)
  have cc_Cursor : ClsD K mg "Cursor" ["word", "at", "deep"] := ⟨C_Cursor, PySem.W.mg_of X G aC_Cursor, ⟨pg_Cursor, hd_Cursor, po_Cursor, sa_Cursor⟩, by
    intro n hn
    simp only [List.mem_cons, List.not_mem_nil, or_false] at hn
    rcases hn with rfl | rfl | rfl
    · exact nf_Cursor_word
    · exact nf_Cursor_at
    · exact nf_Cursor_deep⟩
  refine ⟨PySem.W.fnOf "law" "law" (defArgs s_law) (defBody s_law) (defScope s_law) .none kV_law dc_law pm_law an_law cd_law ct_law, fun s v => .of_eq rfl, fun base _ _ => ?_⟩
  have F__law_reckon' := fun_mk (st := s__law_reckon) l__law_reckon c__law_reckon k__law_reckon
  have D__law_reckon : Def l.prog w K mg base 1 "_law_reckon" 2 F__law_reckon := ⟨_, _, ["numbers", "signs"], PySem.W.mg_of X G a__law_reckon, F__law_reckon'.kp, F__law_reckon'.binds (ps := ["numbers", "signs"]) (fun _ _ _ _ _ _ us hl => match us, hl with | [_, _], _ => rfl), rfl, ok__law_reckon F__law_reckon' ⟩
  have F__law_due' := fun_mk (st := s__law_due) l__law_due c__law_due k__law_due
  have D__law_due : Def l.prog w K mg base 2 "_law_due" 2 F__law_due := ⟨_, _, ["parts", "values"], PySem.W.mg_of X G a__law_due, F__law_due'.kp, F__law_due'.binds (ps := ["parts", "values"]) (fun _ _ _ _ _ _ us hl => match us, hl with | [_, _], _ => rfl), rfl, ok__law_due F__law_due' D__law_reckon zz_int⟩
  have F__law_stir' := fun_mk (st := s__law_stir) l__law_stir c__law_stir k__law_stir
  have D__law_stir : Def l.prog w K mg base 1 "_law_stir" 2 F__law_stir := ⟨_, _, ["cell", "k"], PySem.W.mg_of X G a__law_stir, F__law_stir'.kp, F__law_stir'.binds (ps := ["cell", "k"]) (fun _ _ _ _ _ _ us hl => match us, hl with | [_, _], _ => rfl), rfl, ok__law_stir F__law_stir' ⟩
  have F__law_parts' := fun_mk (st := s__law_parts) l__law_parts c__law_parts k__law_parts
  have D__law_parts : Def l.prog w K mg base 2 "_law_parts" 1 F__law_parts := ⟨_, _, ["cell"], PySem.W.mg_of X G a__law_parts, F__law_parts'.kp, F__law_parts'.binds (ps := ["cell"]) (fun _ _ _ _ _ _ us hl => match us, hl with | [_], _ => rfl), rfl, ok__law_parts F__law_parts' D__law_stir zz_range zz_str⟩
  have F_Cursor_here' := fun_mk (st := s_Cursor_here) l_Cursor_here c_Cursor_here k_Cursor_here
  have D_Cursor_here : MethD l.prog w K mg base 1 "Cursor" "here" 1 F_Cursor_here := ⟨_, _, _, ["self"], PySem.W.mg_of X G aC_Cursor, ⟨pg_Cursor, hd_Cursor, po_Cursor, sa_Cursor⟩, ⟨a_Cursor_here, i_Cursor_here, k_Cursor_here⟩, F_Cursor_here'.binds (ps := ["self"]) (fun _ _ _ _ _ _ us hl => match us, hl with | [_], _ => rfl), rfl, ok_Cursor_here F_Cursor_here' cc_Cursor⟩
  have F_Cursor_init' := fun_mk (st := s_Cursor_init) l_Cursor_init c_Cursor_init k_Cursor_init
  have D_Cursor_init : MakeD l.prog w K mg base 1 "Cursor" 2 F_Cursor_init := ⟨_, _, _, ["self", "word"], PySem.W.mg_of X G aC_Cursor, ⟨mk_Cursor, a_Cursor_init, i_Cursor_init, kc_Cursor⟩, F_Cursor_init'.binds (ps := ["self", "word"]) (fun _ _ _ _ _ _ us hl => match us, hl with | [_, _], _ => rfl), rfl, ok_Cursor_init F_Cursor_init' cc_Cursor⟩
  have F_Cursor_bracket_told' := fun_mk (st := s_Cursor_bracket_told) l_Cursor_bracket_told c_Cursor_bracket_told k_Cursor_bracket_told
  have F_Cursor_taken' := fun_mk (st := s_Cursor_taken) l_Cursor_taken c_Cursor_taken k_Cursor_taken
  have D_Cursor_taken : MethD l.prog w K mg base 2 "Cursor" "taken" 2 F_Cursor_taken := ⟨_, _, _, ["self", "signs"], PySem.W.mg_of X G aC_Cursor, ⟨pg_Cursor, hd_Cursor, po_Cursor, sa_Cursor⟩, ⟨a_Cursor_taken, i_Cursor_taken, k_Cursor_taken⟩, F_Cursor_taken'.binds (ps := ["self", "signs"]) (fun _ _ _ _ _ _ us hl => match us, hl with | [_, _], _ => rfl), rfl, ok_Cursor_taken F_Cursor_taken' D_Cursor_here cc_Cursor⟩
  have F_is_name' := fun_mk (st := s_is_name) l_is_name c_is_name k_is_name
  have D_is_name : Def l.prog w K mg base 1 "is_name" 1 F_is_name := ⟨_, _, ["word"], PySem.W.mg_of X G a_is_name, F_is_name'.kp, F_is_name'.binds (ps := ["word"]) (fun _ _ _ _ _ _ us hl => match us, hl with | [_], _ => rfl), rfl, ok_is_name F_is_name' zz_len qq_BARRED qq_LETTERS qq_LONGEST_NAME⟩
  have F_is_plain_number' := fun_mk (st := s_is_plain_number) l_is_plain_number c_is_plain_number k_is_plain_number
  have D_is_plain_number : Def l.prog w K mg base 1 "is_plain_number" 1 F_is_plain_number := ⟨_, _, ["word"], PySem.W.mg_of X G a_is_plain_number, F_is_plain_number'.kp, F_is_plain_number'.binds (ps := ["word"]) (fun _ _ _ _ _ _ us hl => match us, hl with | [_], _ => rfl), rfl, ok_is_plain_number F_is_plain_number' zz_len qq_FIGURES qq_LONGEST_NUMBER⟩
  have F_Cursor_factor_told' := fun_mk (st := s_Cursor_factor_told) l_Cursor_factor_told c_Cursor_factor_told k_Cursor_factor_told
  have F_Cursor_term_told' := fun_mk (st := s_Cursor_term_told) l_Cursor_term_told c_Cursor_term_told k_Cursor_term_told
  have F_Cursor_sum_told' := fun_mk (st := s_Cursor_sum_told) l_Cursor_sum_told c_Cursor_sum_told k_Cursor_sum_told
  have DD_Cursor_sum_told : ∀ n, MethD l.prog w K mg base (3 + 4 * n) "Cursor" "sum_told" 1 (F_Cursor_sum_told n) := by
    intro n
    induction n with
    | zero => exact ⟨_, _, _, ["self"], PySem.W.mg_of X G aC_Cursor, ⟨pg_Cursor, hd_Cursor, po_Cursor, sa_Cursor⟩, ⟨a_Cursor_sum_told, i_Cursor_sum_told, k_Cursor_sum_told⟩, F_Cursor_sum_told'.binds (ps := ["self"]) (fun _ _ _ _ _ _ us hl => match us, hl with | [_], _ => rfl), rfl, fn_none rfl⟩
    | succ n ih =>
      have D_Cursor_bracket_told : MethD l.prog w K mg base (3 + 4 * n + 1) "Cursor" "bracket_told" 1 (F_Cursor_bracket_told (F_Cursor_sum_told n)) := ⟨_, _, _, ["self"], PySem.W.mg_of X G aC_Cursor, ⟨pg_Cursor, hd_Cursor, po_Cursor, sa_Cursor⟩, ⟨a_Cursor_bracket_told, i_Cursor_bracket_told, k_Cursor_bracket_told⟩, F_Cursor_bracket_told'.binds (ps := ["self"]) (fun _ _ _ _ _ _ us hl => match us, hl with | [_], _ => rfl), rfl, ok_Cursor_bracket_told F_Cursor_bracket_told' D_Cursor_here ih qq_DEEPEST cc_Cursor⟩
      have D_Cursor_factor_told : MethD l.prog w K mg base (3 + 4 * n + 2) "Cursor" "factor_told" 1 (F_Cursor_factor_told (F_Cursor_sum_told n)) := ⟨_, _, _, ["self"], PySem.W.mg_of X G aC_Cursor, ⟨pg_Cursor, hd_Cursor, po_Cursor, sa_Cursor⟩, ⟨a_Cursor_factor_told, i_Cursor_factor_told, k_Cursor_factor_told⟩, F_Cursor_factor_told'.binds (ps := ["self"]) (fun _ _ _ _ _ _ us hl => match us, hl with | [_], _ => rfl), rfl, ok_Cursor_factor_told F_Cursor_factor_told' D_Cursor_bracket_told D_Cursor_here D_Cursor_taken D_is_name D_is_plain_number zz_int qq_FIGURES qq_LETTERS⟩
      have D_Cursor_term_told : MethD l.prog w K mg base (3 + 4 * n + 3) "Cursor" "term_told" 1 (F_Cursor_term_told (F_Cursor_sum_told n)) := ⟨_, _, _, ["self"], PySem.W.mg_of X G aC_Cursor, ⟨pg_Cursor, hd_Cursor, po_Cursor, sa_Cursor⟩, ⟨a_Cursor_term_told, i_Cursor_term_told, k_Cursor_term_told⟩, F_Cursor_term_told'.binds (ps := ["self"]) (fun _ _ _ _ _ _ us hl => match us, hl with | [_], _ => rfl), rfl, ok_Cursor_term_told F_Cursor_term_told' D_Cursor_factor_told D_Cursor_here cc_Cursor⟩
      rw [show 3 + 4 * (n + 1) = 3 + 4 * n + 4 from by omega]
      exact ⟨_, _, _, ["self"], PySem.W.mg_of X G aC_Cursor, ⟨pg_Cursor, hd_Cursor, po_Cursor, sa_Cursor⟩, ⟨a_Cursor_sum_told, i_Cursor_sum_told, k_Cursor_sum_told⟩, F_Cursor_sum_told'.binds (ps := ["self"]) (fun _ _ _ _ _ _ us hl => match us, hl with | [_], _ => rfl), rfl, ok_Cursor_sum_told F_Cursor_sum_told' D_Cursor_here D_Cursor_term_told cc_Cursor⟩
  have D_Cursor_sum_told : MethD l.prog w K mg base 51 "Cursor" "sum_told" 1 (F_Cursor_sum_told 12) := DD_Cursor_sum_told 12
  have F_expression' := fun_mk (st := s_expression) l_expression c_expression k_expression
  have D_expression : Def l.prog w K mg base 52 "expression" 1 F_expression := ⟨_, _, ["word"], PySem.W.mg_of X G a_expression, F_expression'.kp, F_expression'.binds (ps := ["word"]) (fun _ _ _ _ _ _ us hl => match us, hl with | [_], _ => rfl), rfl, ok_expression F_expression' D_Cursor_here D_Cursor_init D_Cursor_sum_told zz_len qq_MOST_SIGNS⟩
  have F_worth' := fun_mk (st := s_worth) l_worth c_worth k_worth
  have DD_worth : ∀ n, Def l.prog w K mg base (1 + n) "worth" 2 (F_worth n) := by
    intro n
    induction n with
    | zero => exact ⟨_, _, ["e", "values"], PySem.W.mg_of X G a_worth, F_worth'.kp, F_worth'.binds (ps := ["e", "values"]) (fun _ _ _ _ _ _ us hl => match us, hl with | [_, _], _ => rfl), rfl, fn_none rfl⟩
    | succ n ih => exact ⟨_, _, ["e", "values"], PySem.W.mg_of X G a_worth, F_worth'.kp, F_worth'.binds (ps := ["e", "values"]) (fun _ _ _ _ _ _ us hl => match us, hl with | [_, _], _ => rfl), rfl, ok_worth F_worth' ih ⟩
  have D_worth : Def l.prog w K mg base 13 "worth" 2 (F_worth 12) := DD_worth 12
  have F_law' := fun_mk (st := s_law) l_law c_law k_law
  exact Z.law_fn (ok_law F_law' D__law_due D__law_parts D__law_stir D_expression D_worth zz_len) law_true
end My
open PySem PySem.W PyProof.Rows
set_option maxHeartbeats 0 in
theorem PySem.Challenge.cw_sayswho_k05_whole_words_worth_holds : PySem.Challenge.rw_sayswho_k05_whole_words_worth.Holds := by
  w_on; o_law; k_head; (case hw => w_witness2)
  k_fill
  refine L2.walk_of (l := PySem.Challenge.rw_sayswho_k05_whole_words_worth) (n := 63) (k := 53) (x := "script") (CX := fun _ => L2.CX0) (sp := fun w => Z.spLaw _) rfl (by decide) rfl ⟨rfl, by decide, by decide⟩ (fun w h Y => PySem.W.kIn_of Y) ?F (fun _ _ a ns hl _ hS => ⟨a, ns, rfl, hS, hl, fun _ => rfl⟩) (fun _ _ _ _ _ h => h)
  case F =>
    intro w mg fa h KX G hmg
    refine' My.all_mk KX G hmg ?aC_Cursor ?pg_Cursor ?hd_Cursor ?po_Cursor ?sa_Cursor ?mk_Cursor ?kc_Cursor ?nf_Cursor_word ?nf_Cursor_at ?nf_Cursor_deep ?a__law_reckon ?l__law_reckon ?c__law_reckon ?k__law_reckon ?a__law_due ?l__law_due ?c__law_due ?k__law_due ?a__law_stir ?l__law_stir ?c__law_stir ?k__law_stir ?a__law_parts ?l__law_parts ?c__law_parts ?k__law_parts ?a_Cursor_here ?i_Cursor_here ?l_Cursor_here ?c_Cursor_here ?k_Cursor_here ?a_Cursor_init ?i_Cursor_init ?l_Cursor_init ?c_Cursor_init ?k_Cursor_init ?a_Cursor_bracket_told ?i_Cursor_bracket_told ?l_Cursor_bracket_told ?c_Cursor_bracket_told ?k_Cursor_bracket_told ?a_Cursor_taken ?i_Cursor_taken ?l_Cursor_taken ?c_Cursor_taken ?k_Cursor_taken ?a_is_name ?l_is_name ?c_is_name ?k_is_name ?a_is_plain_number ?l_is_plain_number ?c_is_plain_number ?k_is_plain_number ?a_Cursor_factor_told ?i_Cursor_factor_told ?l_Cursor_factor_told ?c_Cursor_factor_told ?k_Cursor_factor_told ?a_Cursor_term_told ?i_Cursor_term_told ?l_Cursor_term_told ?c_Cursor_term_told ?k_Cursor_term_told ?a_Cursor_sum_told ?i_Cursor_sum_told ?l_Cursor_sum_told ?c_Cursor_sum_told ?k_Cursor_sum_told ?a_expression ?l_expression ?c_expression ?k_expression ?a_worth ?l_worth ?c_worth ?k_worth ?a_law ?l_law ?c_law ?k_law ?z_int ?z_len ?z_range ?z_str ?q_BARRED ?r_BARRED ?q_LETTERS ?q_FIGURES ?q_LONGEST_NAME ?q_LONGEST_NUMBER ?q_MOST_SIGNS ?q_DEEPEST
    (case aC_Cursor => k_is); (case pg_Cursor => k_is); (case hd_Cursor => k_is); (case po_Cursor => k_is); (case sa_Cursor => k_is); (case mk_Cursor => k_is); (case kc_Cursor => k_is); (case nf_Cursor_word => k_is); (case nf_Cursor_at => k_is); (case nf_Cursor_deep => k_is); (case a__law_reckon => k_is); (case l__law_reckon => k_is); (case c__law_reckon => k_is); (case k__law_reckon => k_is); (case a__law_due => k_is); (case l__law_due => k_is); (case c__law_due => k_is); (case k__law_due => k_is); (case a__law_stir => k_is); (case l__law_stir => k_is); (case c__law_stir => k_is); (case k__law_stir => k_is); (case a__law_parts => k_is); (case l__law_parts => k_is); (case c__law_parts => k_is); (case k__law_parts => k_is); (case a_Cursor_here => k_is); (case i_Cursor_here => k_is); (case l_Cursor_here => k_is); (case c_Cursor_here => k_is); (case k_Cursor_here => k_is); (case a_Cursor_init => k_is); (case i_Cursor_init => k_is); (case l_Cursor_init => k_is); (case c_Cursor_init => k_is); (case k_Cursor_init => k_is); (case a_Cursor_bracket_told => k_is); (case i_Cursor_bracket_told => k_is); (case l_Cursor_bracket_told => k_is); (case c_Cursor_bracket_told => k_is); (case k_Cursor_bracket_told => k_is); (case a_Cursor_taken => k_is); (case i_Cursor_taken => k_is); (case l_Cursor_taken => k_is); (case c_Cursor_taken => k_is); (case k_Cursor_taken => k_is); (case a_is_name => k_is); (case l_is_name => k_is); (case c_is_name => k_is); (case k_is_name => k_is); (case a_is_plain_number => k_is); (case l_is_plain_number => k_is); (case c_is_plain_number => k_is); (case k_is_plain_number => k_is); (case a_Cursor_factor_told => k_is); (case i_Cursor_factor_told => k_is); (case l_Cursor_factor_told => k_is); (case c_Cursor_factor_told => k_is); (case k_Cursor_factor_told => k_is); (case a_Cursor_term_told => k_is); (case i_Cursor_term_told => k_is); (case l_Cursor_term_told => k_is); (case c_Cursor_term_told => k_is); (case k_Cursor_term_told => k_is); (case a_Cursor_sum_told => k_is); (case i_Cursor_sum_told => k_is); (case l_Cursor_sum_told => k_is); (case c_Cursor_sum_told => k_is); (case k_Cursor_sum_told => k_is); (case a_expression => k_is); (case l_expression => k_is); (case c_expression => k_is); (case k_expression => k_is); (case a_worth => k_is); (case l_worth => k_is); (case c_worth => k_is); (case k_worth => k_is); (case a_law => k_is); (case l_law => k_is); (case c_law => k_is); (case k_law => k_is); (case z_int => k_is); (case z_len => k_is); (case z_range => k_is); (case z_str => k_is); (case q_BARRED => k_is); (case r_BARRED => k_is); (case q_LETTERS => k_is); (case q_FIGURES => k_is); (case q_LONGEST_NAME => k_is); (case q_LONGEST_NUMBER => k_is); (case q_MOST_SIGNS => k_is); (case q_DEEPEST => k_is)
