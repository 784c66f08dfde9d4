import PyProof.Rows.All
import Wide.All
import OpenK.AllK
import Wide.FinOn
import HandS.ForMost
import HandS.IsInst
import HandS.TupAny
import HandS.TupMul
import HandS.Deep
import HandS.Zip
import HandS.Wide
import HandS.Style
import HandS.Flow
import KE.GoesEnum
import KE.GoesZip
import KE.GoesMore
import HandS.TupLe
import HandS.SetFor
import HandS.Strs
import HandS.Conv
import HandS.WordsDict
import HandS.Codes
import HandS.HotCalls
import HandS.Lambda
import HandS.EndTab
import HandS.ExcIs
import HandS.Text
import KE.KNestM
import PySem.Challenge.RW_framecount_k21_whole_several_frames_as_o
set_option Elab.async false
set_option linter.all false
set_option exponentiation.threshold 400
set_option maxRecDepth 100000
set_option maxHeartbeats 0
/-! DLa: data semantics over the hand layer: what stands in slots as plain data, and when a reading follows from it. -/
namespace DL
open PySem PySem.Spec L2

abbrev D := PyData
abbrev Dr := Int × Int
/-- what a slot holds: nothing known; plain data; a list of its own; a dict of its own (int keys); the same while it is walked; the draws' cell -/
inductive Sl where
  | un
  | im (d : D)
  | ol (xs : List D)
  | od (kvs : List (Int × D))
  | fd (kvs : List (Int × D))
  | op (v : V)
  | dr
abbrev Rho := List Sl
abbrev SE := Rho → Dr → Option (D × Dr)
abbrev SB := Rho → Dr → Option (Bool × Dr)
abbrev SA := Rho → Dr → Option (List D × Dr)
inductive Fl where
  | nx | bk | ct
  | rt (d : D)
abbrev SS := Rho → Dr → Option (Fl × Rho × Dr)

/-! ### heaps -/
/-! a value that stands for plain data: its lists and tuples are tracked ones -/
mutual
inductive Dp (K : PySem.W.Frag) (H : Hp) : V → PyData → Prop
  | non : Dp K H .non .none
  | bl (b : Bool) : Dp K H (.bl b) (.bool b)
  | int (i : Int) : Dp K H (.int i) (.int i)
  | str (x : Str) : Dp K H (.str x) (.str x)
  | lst {a : Addr} {xs : List V} {ds : List PyData} : H a = some (.lst xs) → DpAll K H xs ds → Dp K H (.ref a) (.list ds)
  | tup {a : Addr} {xs : List V} {ds : List PyData} : H a = some (.tup xs) → DpAll K H xs ds → Dp K H (.ref a) (.tuple ds)
inductive DpAll (K : PySem.W.Frag) (H : Hp) : List V → List PyData → Prop
  | nil : DpAll K H [] []
  | cons {v : V} {vs : List V} {d : PyData} {ds : List PyData} : Dp K H v d → DpAll K H vs ds → DpAll K H (v :: vs) (d :: ds)
end
mutual
theorem dp_old {K : PySem.W.Frag} {B : Hp} : ∀ (d : PyData) (v : V), Dp K B v d → L2.Dp K B v d
  | .none, _, h => by cases h; exact .non
  | .bool b, _, h => by cases h; exact .bl b
  | .int i, _, h => by cases h; exact .int i
  | .str x, _, h => by cases h; exact .str x
  | .list ds, _, h => by
    cases h with
    | lst hs ha => exact .lst (SqL.of hs) (dpAll_old ds _ ha)
  | .tuple ds, _, h => by
    cases h with
    | tup hs ha => exact .tup (SqT.of hs) (dpAll_old ds _ ha)
  | .dict _, _, h => by cases h
theorem dpAll_old {K : PySem.W.Frag} {B : Hp} : ∀ (ds : List PyData) (vs : List V), DpAll K B vs ds → L2.DpAll K B vs ds
  | [], _, h => by cases h; exact .nil
  | d :: ds, _, h => by
    cases h with
    | cons h1 h2 => exact .cons (dp_old d _ h1) (dpAll_old ds _ h2)
end
mutual
theorem dp_mono {K : PySem.W.Frag} {B B' : Hp} (e : Same B B') : ∀ (d : PyData) (v : V), Dp K B v d → Dp K B' v d
  | .none, _, h => by cases h; exact .non
  | .bool b, _, h => by cases h; exact .bl b
  | .int i, _, h => by cases h; exact .int i
  | .str x, _, h => by cases h; exact .str x
  | .list ds, _, h => by
    cases h with
    | lst hs ha => exact .lst (e _ _ hs) (dpAll_mono e ds _ ha)
  | .tuple ds, _, h => by
    cases h with
    | tup hs ha => exact .tup (e _ _ hs) (dpAll_mono e ds _ ha)
  | .dict _, _, h => by cases h
theorem dpAll_mono {K : PySem.W.Frag} {B B' : Hp} (e : Same B B') : ∀ (ds : List PyData) (vs : List V), DpAll K B vs ds → DpAll K B' vs ds
  | [], _, h => by cases h; exact .nil
  | d :: ds, _, h => by
    cases h with
    | cons h1 h2 => exact .cons (dp_mono e d _ h1) (dpAll_mono e ds _ h2)
end
theorem dpAll_len {K : PySem.W.Frag} {B : Hp} : ∀ {ds : List PyData} {vs : List V}, DpAll K B vs ds → vs.length = ds.length
  | [], _, h => by cases h; rfl
  | d :: ds, _, h => by
    cases h with
    | cons h1 h2 => rw [List.length_cons, List.length_cons, dpAll_len h2]
theorem dpAll_get {K : PySem.W.Frag} {B : Hp} : ∀ {ds : List PyData} {vs : List V} {i : Nat} {d : D}, DpAll K B vs ds → ds[i]? = some d → ∃ v, vs[i]? = some v ∧ Dp K B v d
  | [], _, _, _, _, e => by simp at e
  | x :: ds, _, 0, d, h, e => by
    cases h with
    | cons h1 h2 =>
      simp at e
      subst e
      exact ⟨_, rfl, h1⟩
  | x :: ds, _, i + 1, d, h, e => by
    cases h with
    | cons h1 h2 =>
      obtain ⟨v, e1, e2⟩ := dpAll_get (i := i) h2 (by simpa using e)
      exact ⟨v, by simpa using e1, e2⟩
theorem dpAll_append {K : PySem.W.Frag} {B : Hp} : ∀ {ds es : List PyData} {vs us : List V}, DpAll K B vs ds → DpAll K B us es → DpAll K B (vs ++ us) (ds ++ es)
  | [], _, _, _, h, h' => by cases h; exact h'
  | d :: ds, _, _, _, h, h' => by
    cases h with
    | cons h1 h2 => exact .cons h1 (dpAll_append h2 h')
theorem dpAll_set {K : PySem.W.Frag} {B : Hp} {v : V} {d : D} (hd : Dp K B v d) : ∀ {ds : List PyData} {vs : List V} (i : Nat), DpAll K B vs ds → DpAll K B (vs.set i v) (ds.set i d)
  | [], _, _, h => by cases h; exact .nil
  | x :: ds, _, 0, h => by
    cases h with
    | cons h1 h2 => exact .cons hd h2
  | x :: ds, _, i + 1, h => by
    cases h with
    | cons h1 h2 => exact .cons h1 (dpAll_set hd i h2)
theorem dpAll_take {K : PySem.W.Frag} {B : Hp} : ∀ {ds : List PyData} {vs : List V} (n : Nat), DpAll K B vs ds → DpAll K B (vs.take n) (ds.take n)
  | _, _, 0, _ => .nil
  | [], _, n + 1, h => by cases h; exact .nil
  | d :: ds, _, n + 1, h => by
    cases h with
    | cons h1 h2 => exact .cons h1 (dpAll_take n h2)
theorem dpAll_drop {K : PySem.W.Frag} {B : Hp} : ∀ {ds : List PyData} {vs : List V} (n : Nat), DpAll K B vs ds → DpAll K B (vs.drop n) (ds.drop n)
  | _, _, 0, h => h
  | [], _, n + 1, h => by cases h; exact .nil
  | d :: ds, _, n + 1, h => by
    cases h with
    | cons h1 h2 => exact dpAll_drop n h2
theorem dpAll_snoc {K : PySem.W.Frag} {B : Hp} {ds : List PyData} {vs : List V} {v : V} {d : D} (h : DpAll K B vs ds) (hd : Dp K B v d) : DpAll K B (vs ++ [v]) (ds ++ [d]) := dpAll_append h (.cons hd .nil)
theorem dpAll_rep {K : PySem.W.Frag} {B : Hp} {ds : List PyData} {vs : List V} (h : DpAll K B vs ds) : ∀ k : Nat, DpAll K B (List.replicate k vs).flatten (List.replicate k ds).flatten
  | 0 => .nil
  | k + 1 => by rw [List.replicate_succ, List.replicate_succ, List.flatten_cons, List.flatten_cons]; exact dpAll_append h (dpAll_rep h k)

/-- scalars need no heap -/
def flatD : D → Bool
  | .none | .bool _ | .int _ | .str _ => true
  | _ => false
theorem dp_flat {K : PySem.W.Frag} {B B' : Hp} {v : V} {d : D} (f : flatD d = true) (h : Dp K B v d) : Dp K B' v d := by
  cases h with
  | non => exact .non
  | bl b => exact .bl b
  | int i => exact .int i
  | str x => exact .str x
  | lst _ _ => cases f
  | tup _ _ => cases f
theorem dp_int {K : PySem.W.Frag} {B : Hp} {v : V} {i : Int} (h : Dp K B v (.int i)) : v = .int i := by cases h; rfl
theorem dp_bool {K : PySem.W.Frag} {B : Hp} {v : V} {b : Bool} (h : Dp K B v (.bool b)) : v = .bl b := by cases h; rfl
theorem dp_list {K : PySem.W.Frag} {B : Hp} {v : V} {ds : List D} (h : Dp K B v (.list ds)) : ∃ a xs, v = .ref a ∧ B a = some (.lst xs) ∧ DpAll K B xs ds := by
  cases h with
  | lst h1 h2 => exact ⟨_, _, rfl, h1, h2⟩
theorem dp_tuple {K : PySem.W.Frag} {B : Hp} {v : V} {ds : List D} (h : Dp K B v (.tuple ds)) : ∃ a xs, v = .ref a ∧ B a = some (.tup xs) ∧ DpAll K B xs ds := by
  cases h with
  | tup h1 h2 => exact ⟨_, _, rfl, h1, h2⟩

/-- an expression's way: the persistent part grows, all that is tracked stands but the cell -/
structure Fw (ad : Option Addr) (c' : Dr) (B H B' H' : Hp) : Prop where
  bb : Same B B'
  bh : Same B' H'
  keep : ∀ a o, ad ≠ some a → H a = some o → H' a = some o
  cell : ∀ a, ad = some a → H' a = some (.lst [.int c'.1, .int c'.2])
  fresh : ∀ a o, B' a = some o → B a = none → H a = none
theorem Fw.trans {ad : Option Addr} {c1 c2 : Dr} {B H B1 H1 B2 H2 : Hp} (x : Fw ad c1 B H B1 H1) (y : Fw ad c2 B1 H1 B2 H2) (hc : ∀ a, ad = some a → B1 a = none ∧ B2 a = none) : Fw ad c2 B H B2 H2 where
  bb := x.bb.trans y.bb
  bh := y.bh
  keep := fun a o n h => y.keep a o n (x.keep a o n h)
  cell := y.cell
  fresh := fun a o h n => by
    cases q : B1 a with
    | some u => exact x.fresh a u q n
    | none =>
      have h1 := y.fresh a o h q
      cases r : H a with
      | none => rfl
      | some w =>
        have na : ad ≠ some a := fun e => by
          have := (hc a e).2
          rw [h] at this; cases this
        rw [x.keep a w na r] at h1; cases h1
/-- nothing that is tracked changes -/
structure Grow (B H B' H' : Hp) : Prop where
  bb : Same B B'
  bh : Same B' H'
  hh : Same H H'
  fresh : ∀ a o, B' a = some o → B a = none → H a = none
theorem Grow.refl {B H : Hp} (s : Same B H) : Grow B H B H := ⟨Same.refl B, s, Same.refl H, fun _ _ h n => by rw [h] at n; cases n⟩
theorem Grow.trans {B H B1 H1 B2 H2 : Hp} (x : Grow B H B1 H1) (y : Grow B1 H1 B2 H2) : Grow B H B2 H2 :=
  ⟨x.bb.trans y.bb, y.bh, x.hh.trans y.hh, fun a o h n => by
    cases q : B1 a with
    | some u => exact x.fresh a u q n
    | none => exact x.hh.free (y.fresh a o h q)⟩
theorem Grow.fw {ad : Option Addr} {c : Dr} {B H B' H' : Hp} (g : Grow B H B' H') (hc : ∀ a, ad = some a → H a = some (.lst [.int c.1, .int c.2])) : Fw ad c B H B' H' :=
  ⟨g.bb, g.bh, fun a o _ h => g.hh a o h, fun a e => g.hh a _ (hc a e), g.fresh⟩
/-- a new object, persistent from now on -/
theorem Grow.new {B H : Hp} {p : Addr} {o : HO} (s : Same B H) (hp : H p = none) : Grow B H (upd B p o) (upd H p o) where
  bb := fun b u h => by rw [upd_ne (ne_of_none h (s.free hp))]; exact h
  bh := fun b u h => by
    by_cases e : b = p
    · subst e; rw [upd_same] at h ⊢; exact h
    · rw [upd_ne e] at h ⊢; exact s b u h
  hh := fun b u h => by rw [upd_ne (ne_of_none h hp)]; exact h
  fresh := fun b u h n => by
    by_cases e : b = p
    · subst e; exact hp
    · rw [upd_ne e, n] at h; cases h
theorem same_new {H : Hp} {p : Addr} {o : HO} (hp : H p = none) : Same H (upd H p o) := fun b u h => by rw [upd_ne (ne_of_none h hp)]; exact h

/-! ### slots -/
def KvOk (K : PySem.W.Frag) (B : Hp) : List (Key × V) → List (Int × D) → Prop := Paired fun p q => p.1 = Sum.inl q.1 ∧ Dp K B p.2 q.2
theorem paired_map {α β : Type} {F G : α → β → Prop} : ∀ {l₁ : List α} {l₂ : List β}, Paired F l₁ l₂ → (∀ a b, F a b → G a b) → Paired G l₁ l₂
  | _, _, .nil, _ => .nil
  | _, _, .cons r t, f => .cons (f _ _ r) (paired_map t f)
theorem kv_mono {K : PySem.W.Frag} {B B' : Hp} (e : Same B B') {ks : List (Key × V)} {kvs : List (Int × D)} (h : KvOk K B ks kvs) : KvOk K B' ks kvs :=
  paired_map h fun _ _ z => ⟨z.1, dp_mono e _ _ z.2⟩
def SlOk (K : PySem.W.Frag) (ad : Option Addr) (B H : Hp) (o : Option (Option V)) : Sl → Prop
  | .un => True
  | .im d => ∃ v, o = some (some v) ∧ Dp K B v d
  | .ol xs => ∃ a vs, o = some (some (.ref a)) ∧ H a = some (.lst vs) ∧ B a = none ∧ ad ≠ some a ∧ DpAll K B vs xs
  | .od kvs => ∃ a ks, o = some (some (.ref a)) ∧ H a = some (.dK ks) ∧ B a = none ∧ ad ≠ some a ∧ KvOk K B ks kvs
  | .fd kvs => ∃ a w ks, o = some (some (.ref a)) ∧ H a = some (.frz w (.dK ks)) ∧ B a = none ∧ ad ≠ some a ∧ KvOk K B ks kvs
  | .op v => o = some (some v)
  | .dr => ∃ a, ad = some a ∧ o = some (some (.ref a))
def owns : Sl → Bool
  | .ol _ => true
  | .od _ => true
  | _ => false
def Owned (ρ : Rho) (σ : L2.St) (a : Addr) : Prop := ∃ (i : Nat) (s : Sl), ρ[i]? = some s ∧ owns s = true ∧ σ[i]? = some (some (.ref a))
structure Rl (K : PySem.W.Frag) (ad : Option Addr) (B : Hp) (σ : L2.St) (H : Hp) (ρ : Rho) (c : Dr) : Prop where
  sub : Same B H
  cell : ∀ a, ad = some a → H a = some (.lst [.int c.1, .int c.2])
  cfree : ∀ a, ad = some a → B a = none
  len : σ.length = ρ.length
  slot : ∀ (i : Nat) (s : Sl), ρ[i]? = some s → SlOk K ad B H σ[i]? s
  sep : ∀ (i j : Nat) (s t : Sl) (a : Addr), i ≠ j → ρ[i]? = some s → ρ[j]? = some t → owns s = true → owns t = true → σ[i]? = some (some (.ref a)) → σ[j]? ≠ some (some (.ref a))
section
variable {K : PySem.W.Frag} {ad : Option Addr} {B B' H H' : Hp} {σ : L2.St} {ρ : Rho} {c c' : Dr}
theorem SlOk.fw {o : Option (Option V)} {s : Sl} (h : SlOk K ad B H o s) (x : Fw ad c' B H B' H') : SlOk K ad B' H' o s := by
  have nb : ∀ {a : Addr} {u : HO}, H a = some u → B a = none → B' a = none := fun {a u} h1 h2 => by
    cases q : B' a with
    | none => rfl
    | some w => rw [x.fresh a w q h2] at h1; cases h1
  cases s with
  | un => trivial
  | im d =>
    obtain ⟨v, e, r⟩ := h
    exact ⟨v, e, dp_mono x.bb _ _ r⟩
  | ol xs =>
    obtain ⟨a, vs, e, h1, h2, h3, h4⟩ := h
    exact ⟨a, vs, e, x.keep a _ h3 h1, nb h1 h2, h3, dpAll_mono x.bb _ _ h4⟩
  | od kvs =>
    obtain ⟨a, ks, e, h1, h2, h3, h4⟩ := h
    exact ⟨a, ks, e, x.keep a _ h3 h1, nb h1 h2, h3, kv_mono x.bb h4⟩
  | fd kvs =>
    obtain ⟨a, w, ks, e, h1, h2, h3, h4⟩ := h
    exact ⟨a, w, ks, e, x.keep a _ h3 h1, nb h1 h2, h3, kv_mono x.bb h4⟩
  | op v => exact h
  | dr => exact h
theorem Fw.cfree (x : Fw ad c' B H B' H') (r : Rl K ad B σ H ρ c) : ∀ a, ad = some a → B' a = none := fun a e => by
  cases q : B' a with
  | none => rfl
  | some w =>
    have h1 := x.fresh a w q (r.cfree a e)
    rw [r.cell a e] at h1; cases h1
theorem Rl.fw (r : Rl K ad B σ H ρ c) (x : Fw ad c' B H B' H') : Rl K ad B' σ H' ρ c' :=
  ⟨x.bh, x.cell, x.cfree r, r.len, fun i s e => (r.slot i s e).fw x, r.sep⟩
theorem Rl.fwRefl (r : Rl K ad B σ H ρ c) : Fw ad c B H B H := (Grow.refl r.sub).fw r.cell
theorem Rl.trans {c1 c2 : Dr} {B1 H1 B2 H2 : Hp} (r : Rl K ad B σ H ρ c) (x : Fw ad c1 B H B1 H1) (y : Fw ad c2 B1 H1 B2 H2) : Fw ad c2 B H B2 H2 :=
  x.trans y fun a e => ⟨x.cfree r a e, y.cfree (r.fw x) a e⟩
/-- a slot set to plain data -/
theorem Rl.setIm (r : Rl K ad B σ H ρ c) {i : Nat} {v : V} {d : D} (h : Dp K B v d) : Rl K ad B (σ.set i (some v)) H (ρ.set i (.im d)) c := by
  refine ⟨r.sub, r.cell, r.cfree, by rw [List.length_set, List.length_set]; exact r.len, fun j s e => ?_, fun j k s t a hjk e1 e2 o1 o2 g1 => ?_⟩
  · by_cases hj : j = i
    · subst hj
      have hl : j < ρ.length := by
        have := (List.getElem?_eq_some_iff.mp e).1
        rwa [List.length_set] at this
      rw [List.getElem?_set_self hl] at e
      cases e
      rw [List.getElem?_set_self (by rw [r.len]; exact hl)]
      exact ⟨v, rfl, h⟩
    · rw [List.getElem?_set_ne (Ne.symm hj)] at e ⊢
      exact r.slot j s e
  · by_cases hj : j = i
    · subst hj
      have hl : j < ρ.length := by
        have := (List.getElem?_eq_some_iff.mp e1).1
        rwa [List.length_set] at this
      rw [List.getElem?_set_self hl] at e1
      cases e1; cases o1
    · by_cases hk : k = i
      · subst hk
        have hl : k < ρ.length := by
          have := (List.getElem?_eq_some_iff.mp e2).1
          rwa [List.length_set] at this
        rw [List.getElem?_set_self hl] at e2
        cases e2; cases o2
      · rw [List.getElem?_set_ne (Ne.symm hj)] at e1 g1
        rw [List.getElem?_set_ne (Ne.symm hk)] at e2 ⊢
        exact r.sep j k s t a hjk e1 e2 o1 o2 g1
end
end DL
/-! DLb: expressions. -/
namespace DL
open PySem PySem.Spec L2

/-! ### what a reading does, on data -/
def ImpE (K : PySem.W.Frag) (t : TE) (f : SE) : Prop := ∀ (ad : Option Addr) (B : Hp) (σ : L2.St) (H : Hp) (ρ : Rho) (c : Dr) (d : D) (c' : Dr) (Q : VK), Rl K ad B σ H ρ c → f ρ c = some (d, c') →
  (∀ v B' H', Fw ad c' B H B' H' → Dp K B' v d → Q v H') → t σ H Q
def ImpT (K : PySem.W.Frag) (t : TT) (f : SB) : Prop := ∀ (ad : Option Addr) (B : Hp) (σ : L2.St) (H : Hp) (ρ : Rho) (c : Dr) (b : Bool) (c' : Dr) (Q : Bool → Hp → Prop), Rl K ad B σ H ρ c → f ρ c = some (b, c') →
  (∀ B' H', Fw ad c' B H B' H' → Q b H') → t σ H Q
def ImpA (K : PySem.W.Frag) (t : TA) (f : SA) : Prop := ∀ (ad : Option Addr) (B : Hp) (σ : L2.St) (H : Hp) (ρ : Rho) (c : Dr) (ds : List D) (c' : Dr) (Q : List V → Hp → Prop), Rl K ad B σ H ρ c → f ρ c = some (ds, c') →
  (∀ vs B' H', Fw ad c' B H B' H' → DpAll K B' vs ds → Q vs H') → t σ H Q
/-- operations on values -/
def OpD (K : PySem.W.Frag) (r : R2) (g : D → D → Option D) : Prop := ∀ (B H : Hp) (x y : V) (d e z : D) (Q : VK), Same B H → Dp K B x d → Dp K B y e → g d e = some z → (∀ v B' H', Grow B H B' H' → Dp K B' v z → Q v H') → r x y H Q
def UnD (K : PySem.W.Frag) (r : V → Hp → VK → Prop) (g : D → Option D) : Prop := ∀ (B H : Hp) (x : V) (d z : D) (Q : VK), Same B H → Dp K B x d → g d = some z → (∀ v B' H', Grow B H B' H' → Dp K B' v z → Q v H') → r x H Q
def CallD (K : PySem.W.Frag) (r : List V → Hp → VK → Prop) (g : List D → Option D) : Prop := ∀ (B H : Hp) (xs : List V) (ds : List D) (z : D) (Q : VK), Same B H → DpAll K B xs ds → g ds = some z → (∀ v B' H', Grow B H B' H' → Dp K B' v z → Q v H') → r xs H Q

/-! ### names and constants -/
def sV (i : Nat) : SE := fun ρ c => match ρ[i]? with
  | some (.im d) => some (d, c)
  | _ => none
def sC (d : D) : SE := fun _ c => some (d, c)
theorem imp_v {K : PySem.W.Frag} (i : Nat) : ImpE K (tVar i) (sV i) := fun ad B σ H ρ c d c' Q r h q => by
  unfold sV at h
  split at h
  · rename_i d' e
    cases h
    obtain ⟨v, e1, e2⟩ := r.slot i _ e
    exact ⟨v, e1, q v B H r.fwRefl e2⟩
  · cases h
theorem imp_int {K : PySem.W.Frag} {i : Int} : ImpE K (tC (.int i)) (sC (.int i)) := fun ad B σ H ρ c d c' Q r h q => by
  cases h; exact q _ B H r.fwRefl (.int i)
theorem imp_bl {K : PySem.W.Frag} {i : Bool} : ImpE K (tC (.bl i)) (sC (.bool i)) := fun ad B σ H ρ c d c' Q r h q => by
  cases h; exact q _ B H r.fwRefl (.bl i)
theorem imp_non {K : PySem.W.Frag} : ImpE K (tC .non) (sC .none) := fun ad B σ H ρ c d c' Q r h q => by
  cases h; exact q _ B H r.fwRefl .non
theorem imp_str {K : PySem.W.Frag} {i : Str} : ImpE K (tC (.str i)) (sC (.str i)) := fun ad B σ H ρ c d c' Q r h q => by
  cases h; exact q _ B H r.fwRefl (.str i)

/-! ### operators -/
def sOp (g : D → D → Option D) (a b : SE) : SE := fun ρ c => (a ρ c).bind fun p => (b ρ p.2).bind fun q => (g p.1 q.1).bind fun z => some (z, q.2)
def sUn (g : D → Option D) (a : SE) : SE := fun ρ c => (a ρ c).bind fun p => (g p.1).bind fun z => some (z, p.2)
/-- the test of a value that is a bool -/
def sB (a : SE) : SB := fun ρ c => (a ρ c).bind fun p => match p.1 with
  | .bool b => some (b, p.2)
  | _ => none
theorem imp_op {K : PySem.W.Frag} {r : R2} {g : D → D → Option D} {ta tb : TE} {a b : SE} (hr : OpD K r g) (ha : ImpE K ta a) (hb : ImpE K tb b) : ImpE K (tOp r ta tb) (sOp g a b) := fun ad B σ H ρ c d c' Q R h q => by
  unfold sOp at h
  obtain ⟨⟨x, c1⟩, h1, h⟩ := Option.bind_eq_some_iff.mp h
  obtain ⟨⟨y, c2⟩, h2, h⟩ := Option.bind_eq_some_iff.mp h
  obtain ⟨z, h3, h⟩ := Option.bind_eq_some_iff.mp h
  cases h
  refine ha ad B σ H ρ c x c1 _ R h1 fun v B1 H1 f1 d1 => ?_
  refine hb ad B1 σ H1 ρ c1 y c2 _ (R.fw f1) h2 fun u B2 H2 f2 d2 => ?_
  refine hr B2 H2 v u x y _ _ f2.bh (dp_mono f2.bb _ _ d1) d2 h3 fun w B3 H3 g3 d3 => ?_
  exact q w B3 H3 (R.trans (R.trans f1 f2) (g3.fw f2.cell)) d3
theorem imp_un {K : PySem.W.Frag} {r : V → Hp → VK → Prop} {g : D → Option D} {ta : TE} {a : SE} (hr : UnD K r g) (ha : ImpE K ta a) : ImpE K (tUn r ta) (sUn g a) := fun ad B σ H ρ c d c' Q R h q => by
  unfold sUn at h
  obtain ⟨⟨x, c1⟩, h1, h⟩ := Option.bind_eq_some_iff.mp h
  obtain ⟨z, h3, h⟩ := Option.bind_eq_some_iff.mp h
  cases h
  refine ha ad B σ H ρ c x c1 _ R h1 fun v B1 H1 f1 d1 => ?_
  exact hr B1 H1 v x _ _ f1.bh d1 h3 fun w B3 H3 g3 d3 => q w B3 H3 (R.trans f1 (g3.fw f1.cell)) d3
theorem imp_test {K : PySem.W.Frag} {t : TE} {f : SE} (h : ImpE K t f) : ImpT K (tTest t) (sB f) := fun ad B σ H ρ c b c' Q R e q => by
  unfold sB at e
  obtain ⟨⟨x, c1⟩, h1, e⟩ := Option.bind_eq_some_iff.mp e
  refine h ad B σ H ρ c x c1 _ R h1 fun v B1 H1 f1 d1 => ?_
  cases x with
  | bool k =>
    cases e
    exact ⟨b, dp_bool d1, q B1 H1 f1⟩
  | _ => cases e
theorem imp_tB {K : PySem.W.Frag} {t : TE} {f : SE} (h : ImpE K t f) : ImpT K (tB t) (sB f) := imp_test h
/-- by truth -/
def truD : D → Option Bool
  | .none => some false
  | .bool b => some b
  | .int i => some (i != 0)
  | .list xs => some (!xs.isEmpty)
  | .tuple xs => some (!xs.isEmpty)
  | _ => none
def sTr (a : SE) : SB := fun ρ c => (a ρ c).bind fun p => (truD p.1).bind fun b => some (b, p.2)
/-! and, or, not -/
def sAnd (a b : SB) : SB := fun ρ c => (a ρ c).bind fun p => if p.1 = true then b ρ p.2 else some (false, p.2)
def sOr (a b : SB) : SB := fun ρ c => (a ρ c).bind fun p => if p.1 = true then some (true, p.2) else b ρ p.2
def sNot (a : SB) : SB := fun ρ c => (a ρ c).bind fun p => some (!p.1, p.2)
def sAndV (a b : SE) : SE := fun ρ c => (sB a ρ c).bind fun p => if p.1 = true then b ρ p.2 else some (.bool false, p.2)
def sOrV (a b : SE) : SE := fun ρ c => (sB a ρ c).bind fun p => if p.1 = true then some (.bool true, p.2) else b ρ p.2
def sNotV (a : SE) : SE := fun ρ c => (sB a ρ c).bind fun p => some (.bool (!p.1), p.2)
theorem imp_or {K : PySem.W.Frag} {t u : TT} {a b : SB} (ha : ImpT K t a) (hb : ImpT K u b) : ImpT K (tOr t u) (sOr a b) := fun ad B σ H ρ c z c' Q R e q => by
  unfold sOr at e
  obtain ⟨⟨x, c1⟩, h1, e⟩ := Option.bind_eq_some_iff.mp e
  refine ha ad B σ H ρ c x c1 _ R h1 fun B1 H1 f1 => ?_
  cases x with
  | false => exact hb ad B1 σ H1 ρ c1 z c' Q (R.fw f1) e fun B2 H2 f2 => q B2 H2 (R.trans f1 f2)
  | true => cases e; exact q B1 H1 f1
theorem imp_not {K : PySem.W.Frag} {t : TT} {a : SB} (ha : ImpT K t a) : ImpT K (tNot t) (sNot a) := fun ad B σ H ρ c z c' Q R e q => by
  unfold sNot at e
  obtain ⟨⟨x, c1⟩, h1, e⟩ := Option.bind_eq_some_iff.mp e
  cases e
  exact ha ad B σ H ρ c x c1 _ R h1 fun B1 H1 f1 => q B1 H1 f1
theorem imp_sB {K : PySem.W.Frag} {t : TE} {a : SE} (ha : ImpE K t a) {ad : Option Addr} {B : Hp} {σ : L2.St} {H : Hp} {ρ : Rho} {c : Dr} {k : Bool} {c1 : Dr} {Q : VK} (R : Rl K ad B σ H ρ c) (h : sB a ρ c = some (k, c1))
    (q : ∀ B' H', Fw ad c1 B H B' H' → Q (.bl k) H') : t σ H Q := by
  unfold sB at h
  obtain ⟨⟨x, c2⟩, h1, h⟩ := Option.bind_eq_some_iff.mp h
  refine ha ad B σ H ρ c x c2 _ R h1 fun v B1 H1 f1 d1 => ?_
  cases x with
  | bool k =>
    cases h
    rw [dp_bool d1]
    exact q B1 H1 f1
  | _ => cases h
theorem imp_andV {K : PySem.W.Frag} {t u : TE} {a b : SE} (ha : ImpE K t a) (hb : ImpE K u b) : ImpE K (tAndV t u) (sAndV a b) := fun ad B σ H ρ c z c' Q R e q => by
  unfold sAndV at e
  obtain ⟨⟨x, c1⟩, h1, e⟩ := Option.bind_eq_some_iff.mp e
  refine imp_sB ha R h1 fun B1 H1 f1 => ⟨x, rfl, ?_⟩
  cases x with
  | true => exact hb ad B1 σ H1 ρ c1 z c' Q (R.fw f1) e fun v B2 H2 f2 => q v B2 H2 (R.trans f1 f2)
  | false => cases e; exact q _ B1 H1 f1 (.bl false)
theorem imp_notV {K : PySem.W.Frag} {t : TE} {a : SE} (ha : ImpE K t a) : ImpE K (tNotV t) (sNotV a) := fun ad B σ H ρ c z c' Q R e q => by
  unfold sNotV at e
  obtain ⟨⟨x, c1⟩, h1, e⟩ := Option.bind_eq_some_iff.mp e
  cases e
  exact imp_sB ha R h1 fun B1 H1 f1 => ⟨x, rfl, q _ B1 H1 f1 (.bl _)⟩
def sIfE (t : SB) (a b : SE) : SE := fun ρ c => (t ρ c).bind fun p => if p.1 = true then a ρ p.2 else b ρ p.2
theorem imp_ifE {K : PySem.W.Frag} {t : TT} {u v : TE} {f : SB} {a b : SE} (ht : ImpT K t f) (ha : ImpE K u a) (hb : ImpE K v b) : ImpE K (tIf t u v) (sIfE f a b) := fun ad B σ H ρ c z c' Q R e q => by
  unfold sIfE at e
  obtain ⟨⟨x, c1⟩, h1, e⟩ := Option.bind_eq_some_iff.mp e
  refine ht ad B σ H ρ c x c1 _ R h1 fun B1 H1 f1 => ?_
  cases x with
  | true => exact ha ad B1 σ H1 ρ c1 z c' Q (R.fw f1) e fun v B2 H2 f2 => q v B2 H2 (R.trans f1 f2)
  | false => exact hb ad B1 σ H1 ρ c1 z c' Q (R.fw f1) e fun v B2 H2 f2 => q v B2 H2 (R.trans f1 f2)
/-! chains: a < b <= c -/
def sChain (g g' : D → D → Option D) (a b e : SE) : SE := fun ρ c => (a ρ c).bind fun p => (b ρ p.2).bind fun q => (g p.1 q.1).bind fun z => match z with
  | .bool true => (e ρ q.2).bind fun w => (g' q.1 w.1).bind fun z' => some (z', w.2)
  | .bool false => some (.bool false, q.2)
  | _ => none
theorem imp_chain {K : PySem.W.Frag} {r r' : R2} {g g' : D → D → Option D} {ta tb tc : TE} {a b e : SE} (hr : OpD K r g) (hr' : OpD K r' g') (ha : ImpE K ta a) (hb : ImpE K tb b) (he : ImpE K tc e) :
    ImpE K (tChain r r' ta tb tc) (sChain g g' a b e) := fun ad B σ H ρ c d c' Q R h q => by
  unfold sChain at h
  obtain ⟨⟨x, c1⟩, h1, h⟩ := Option.bind_eq_some_iff.mp h
  obtain ⟨⟨y, c2⟩, h2, h⟩ := Option.bind_eq_some_iff.mp h
  obtain ⟨z, h3, h⟩ := Option.bind_eq_some_iff.mp h
  refine ha ad B σ H ρ c x c1 _ R h1 fun v B1 H1 f1 d1 => ?_
  refine hb ad B1 σ H1 ρ c1 y c2 _ (R.fw f1) h2 fun u B2 H2 f2 d2 => ?_
  refine hr B2 H2 v u x y z _ f2.bh (dp_mono f2.bb _ _ d1) d2 h3 fun w B3 H3 g3 d3 => ?_
  have f3 : Fw ad c2 B H B3 H3 := R.trans (R.trans f1 f2) (g3.fw f2.cell)
  split at h
  · refine ⟨true, dp_bool d3, ?_⟩
    rw [if_pos rfl]
    obtain ⟨⟨x4, c4⟩, h4, h⟩ := Option.bind_eq_some_iff.mp h
    obtain ⟨z5, h5, h⟩ := Option.bind_eq_some_iff.mp h
    cases h
    refine he ad B3 σ H3 ρ c2 x4 c4 _ (R.fw f3) h4 fun v4 B4 H4 f4 d4 => ?_
    refine hr' B4 H4 u v4 y x4 _ _ f4.bh (dp_mono (g3.bb.trans f4.bb) _ _ d2) d4 h5 fun v5 B5 H5 g5 d5 => ?_
    exact q v5 B5 H5 (R.trans (R.trans f3 f4) (g5.fw f4.cell)) d5
  · cases h
    refine ⟨false, dp_bool d3, ?_⟩
    rw [if_neg Bool.false_ne_true]
    exact q _ B3 H3 f3 (.bl false)
  · cases h
/-! ### arguments, displays -/
def sNil : SA := fun _ c => some ([], c)
def sCons (a : SE) (b : SA) : SA := fun ρ c => (a ρ c).bind fun p => (b ρ p.2).bind fun q => some (p.1 :: q.1, q.2)
theorem imp_nil {K : PySem.W.Frag} : ImpA K tNil sNil := fun ad B σ H ρ c d c' Q r h q => by
  cases h; exact q _ B H r.fwRefl .nil
theorem imp_cons {K : PySem.W.Frag} {t : TE} {u : TA} {a : SE} {b : SA} (ha : ImpE K t a) (hb : ImpA K u b) : ImpA K (tCons t u) (sCons a b) := fun ad B σ H ρ c ds c' Q R h q => by
  unfold sCons at h
  obtain ⟨⟨x, c1⟩, h1, h⟩ := Option.bind_eq_some_iff.mp h
  obtain ⟨⟨y, c2⟩, h2, h⟩ := Option.bind_eq_some_iff.mp h
  cases h
  refine ha ad B σ H ρ c x c1 _ R h1 fun v B1 H1 f1 d1 => ?_
  refine hb ad B1 σ H1 ρ c1 y c2 _ (R.fw f1) h2 fun us B2 H2 f2 d2 => ?_
  exact q _ B2 H2 (R.trans f1 f2) (.cons (dp_mono f2.bb _ _ d1) d2)
theorem dp_newTup {K : PySem.W.Frag} {B : Hp} {p : Addr} {vs : List V} {ds : List D} (hp : B p = none) (h : DpAll K B vs ds) : Dp K (upd B p (.tup vs)) (.ref p) (.tuple ds) :=
  .tup upd_same (dpAll_mono (same_new hp) _ _ h)
theorem dp_newLst {K : PySem.W.Frag} {B : Hp} {p : Addr} {vs : List V} {ds : List D} (hp : B p = none) (h : DpAll K B vs ds) : Dp K (upd B p (.lst vs)) (.ref p) (.list ds) :=
  .lst upd_same (dpAll_mono (same_new hp) _ _ h)
/-- lengths that fit: a bound well below the model's line -/
def few (n : Nat) : Bool := decide (n ≤ 1000000)
theorem few_ok {n : Nat} (h : few n = true) : n ≤ 1000000 := of_decide_eq_true h
theorem few_line {n : Nat} (h : few n = true) : n ≤ sizeLine := Nat.le_trans (few_ok h) (by rw [sizeLine_eq]; decide)
theorem few_lt {n : Nat} (h : few n = true) : n < sizeLine := Nat.lt_of_le_of_lt (few_ok h) (by rw [sizeLine_eq]; decide)
def sTup (a : SA) : SE := fun ρ c => (a ρ c).bind fun p => if few p.1.length = true then some (.tuple p.1, p.2) else none
def sLst (a : SA) : SE := fun ρ c => (a ρ c).bind fun p => if few p.1.length = true then some (.list p.1, p.2) else none
theorem imp_tup {K : PySem.W.Frag} {t : TA} {a : SA} (ha : ImpA K t a) : ImpE K (tTup t) (sTup a) := fun ad B σ H ρ c d c' Q R h q => by
  unfold sTup at h
  obtain ⟨⟨x, c1⟩, h1, h⟩ := Option.bind_eq_some_iff.mp h
  split at h
  · rename_i hz
    cases h
    refine ha ad B σ H ρ c x _ _ R h1 fun vs B1 H1 f1 d1 => ⟨by rw [dpAll_len d1]; exact few_line hz, fun p np => ?_⟩
    exact q _ (upd B1 p (.tup vs)) _ (R.trans f1 ((Grow.new f1.bh np).fw f1.cell)) (dp_newTup (f1.bh.free np) d1)
  · cases h
theorem imp_lst {K : PySem.W.Frag} {t : TA} {a : SA} (ha : ImpA K t a) : ImpE K (tLst t) (sLst a) := fun ad B σ H ρ c d c' Q R h q => by
  unfold sLst at h
  obtain ⟨⟨x, c1⟩, h1, h⟩ := Option.bind_eq_some_iff.mp h
  split at h
  · rename_i hz
    cases h
    refine ha ad B σ H ρ c x _ _ R h1 fun vs B1 H1 f1 d1 => ⟨by rw [dpAll_len d1]; exact few_line hz, fun p np => ?_⟩
    exact q _ (upd B1 p (.lst vs)) _ (R.trans f1 ((Grow.new f1.bh np).fw f1.cell)) (dp_newLst (f1.bh.free np) d1)
  · cases h
/-! ### calls of built-ins -/
def sCB (g : List D → Option D) (a : SA) : SE := fun ρ c => (a ρ c).bind fun p => (g p.1).bind fun z => some (z, p.2)
theorem imp_cb {K : PySem.W.Frag} {r : List V → Hp → VK → Prop} {g : List D → Option D} {t : TA} {a : SA} (hr : CallD K r g) (ha : ImpA K t a) : ImpE K (tCB r t) (sCB g a) := fun ad B σ H ρ c d c' Q R h q => by
  unfold sCB at h
  obtain ⟨⟨x, c1⟩, h1, h⟩ := Option.bind_eq_some_iff.mp h
  obtain ⟨z, h2, h⟩ := Option.bind_eq_some_iff.mp h
  cases h
  refine ha ad B σ H ρ c x _ _ R h1 fun vs B1 H1 f1 d1 => ?_
  exact hr B1 H1 vs x _ _ f1.bh d1 h2 fun w B3 H3 g3 d3 => q w B3 H3 (R.trans f1 (g3.fw f1.cell)) d3
/-! ### slices -/
abbrev SO := Rho → Dr → Option (Option Int × Dr)
def ImpO (K : PySem.W.Frag) (t : TO) (f : SO) : Prop := ∀ (ad : Option Addr) (B : Hp) (σ : L2.St) (H : Hp) (ρ : Rho) (c : Dr) (o : Option Int) (c' : Dr) (Q : Option Int → Hp → Prop), Rl K ad B σ H ρ c → f ρ c = some (o, c') →
  (∀ B' H', Fw ad c' B H B' H' → Q o H') → t σ H Q
def sNoP : SO := fun _ c => some (none, c)
def sP (a : SE) : SO := fun ρ c => (a ρ c).bind fun p => match p.1 with
  | .int i => some (some i, p.2)
  | _ => none
theorem imp_noP {K : PySem.W.Frag} : ImpO K tNoPart sNoP := fun ad B σ H ρ c d c' Q r h q => by
  cases h; exact q B H r.fwRefl
theorem imp_p {K : PySem.W.Frag} {t : TE} {a : SE} (ha : ImpE K t a) : ImpO K (tPart t) (sP a) := fun ad B σ H ρ c d c' Q R h q => by
  unfold sP at h
  obtain ⟨⟨x, c1⟩, h1, h⟩ := Option.bind_eq_some_iff.mp h
  refine ha ad B σ H ρ c x c1 _ R h1 fun v B1 H1 f1 d1 => ?_
  cases x with
  | int i =>
    cases h
    exact ⟨i, dp_int d1, q B1 H1 f1⟩
  | _ => cases h
def SlD (K : PySem.W.Frag) (r : V → Option Int → Option Int → Hp → VK → Prop) (g : D → Option Int → Option Int → Option D) : Prop := ∀ (B H : Hp) (x : V) (d z : D) (lo hi : Option Int) (Q : VK), Same B H → Dp K B x d → g d lo hi = some z →
  (∀ v B' H', Grow B H B' H' → Dp K B' v z → Q v H') → r x lo hi H Q
def sSl (g : D → Option Int → Option Int → Option D) (a : SE) (l h : SO) : SE := fun ρ c => (a ρ c).bind fun p => (l ρ p.2).bind fun q => (h ρ q.2).bind fun r => (g p.1 q.1 r.1).bind fun z => some (z, r.2)
theorem imp_sl {K : PySem.W.Frag} {r : V → Option Int → Option Int → Hp → VK → Prop} {g : D → Option Int → Option Int → Option D} {te : TE} {tl th : TO} {a : SE} {l u : SO} (hr : SlD K r g) (ha : ImpE K te a) (hl : ImpO K tl l) (hu : ImpO K th u) :
    ImpE K (tSl r te tl th) (sSl g a l u) := fun ad B σ H ρ c d c' Q R h q => by
  unfold sSl at h
  obtain ⟨⟨x, c1⟩, h1, h⟩ := Option.bind_eq_some_iff.mp h
  obtain ⟨⟨y, c2⟩, h2, h⟩ := Option.bind_eq_some_iff.mp h
  obtain ⟨⟨y3, c3⟩, h3, h⟩ := Option.bind_eq_some_iff.mp h
  obtain ⟨z, h4, h⟩ := Option.bind_eq_some_iff.mp h
  cases h
  refine ha ad B σ H ρ c x c1 _ R h1 fun v B1 H1 f1 d1 => ?_
  refine hl ad B1 σ H1 ρ c1 y c2 _ (R.fw f1) h2 fun B2 H2 f2 => ?_
  have f12 := R.trans f1 f2
  refine hu ad B2 σ H2 ρ c2 y3 c3 _ (R.fw f12) h3 fun B3 H3 f3 => ?_
  exact hr B3 H3 v x _ _ _ _ f3.bh (dp_mono (f2.bb.trans f3.bb) _ _ d1) h4 fun w B4 H4 g4 d4 => q w B4 H4 (R.trans (R.trans f12 f3) (g4.fw f3.cell)) d4
end DL
/-! DLc: statements. -/
namespace DL
open PySem PySem.Spec L2

/-! ### what a statement does, on data -/
/-- a statement's way: what it owned may change, the rest stands; what it owns behind it was owned or is new -/
structure FwS (ad : Option Addr) (B : Hp) (σ : L2.St) (H : Hp) (ρ : Rho) (B' : Hp) (σ' : L2.St) (H' : Hp) (ρ' : Rho) : Prop where
  bb : Same B B'
  keep : ∀ a o, ad ≠ some a → H a = some o → ¬ Owned ρ σ a → H' a = some o
  fresh : ∀ a o, B' a = some o → B a = none → H a = none ∨ Owned ρ σ a
  own : ∀ a, Owned ρ' σ' a → Owned ρ σ a ∨ H a = none
/-- .. where the code is left -/
structure FwR (ad : Option Addr) (c' : Dr) (B : Hp) (σ : L2.St) (H : Hp) (ρ : Rho) (B' H' : Hp) : Prop where
  bb : Same B B'
  bh : Same B' H'
  cell : ∀ a, ad = some a → H' a = some (.lst [.int c'.1, .int c'.2])
  keep : ∀ a o, ad ≠ some a → H a = some o → ¬ Owned ρ σ a → H' a = some o
  fresh : ∀ a o, B' a = some o → B a = none → H a = none ∨ Owned ρ σ a
section
variable {K : PySem.W.Frag} {ad : Option Addr} {B B1 B2 B' H H1 H2 H' : Hp} {σ σ1 σ2 : L2.St} {ρ ρ1 ρ2 : Rho} {c c1 c2 : Dr}
theorem Rl.ownB (r : Rl K ad B σ H ρ c) {a : Addr} (h : Owned ρ σ a) : B a = none ∧ ad ≠ some a ∧ ∃ o, H a = some o := by
  obtain ⟨i, s, e1, e2, e3⟩ := h
  have q := r.slot i s e1
  cases s with
  | ol xs =>
    obtain ⟨b, vs, e, h1, h2, h3, _⟩ := q
    rw [e3] at e; cases e
    exact ⟨h2, h3, _, h1⟩
  | od xs =>
    obtain ⟨b, vs, e, h1, h2, h3, _⟩ := q
    rw [e3] at e; cases e
    exact ⟨h2, h3, _, h1⟩
  | _ => cases e2
theorem FwS.trans (r : Rl K ad B σ H ρ c) (r1 : Rl K ad B1 σ1 H1 ρ1 c1) (x : FwS ad B σ H ρ B1 σ1 H1 ρ1) (y : FwS ad B1 σ1 H1 ρ1 B2 σ2 H2 ρ2) : FwS ad B σ H ρ B2 σ2 H2 ρ2 where
  bb := x.bb.trans y.bb
  keep := fun a o n h no => y.keep a o n (x.keep a o n h no) fun z => by
    rcases x.own a z with q | q
    · exact no q
    · rw [h] at q; cases q
  fresh := fun a o h n => by
    cases q : B1 a with
    | some u => exact x.fresh a u q n
    | none =>
      rcases y.fresh a o h q with z | z
      · by_cases w : Owned ρ σ a
        · exact .inr w
        · cases e : H a with
          | none => exact .inl rfl
          | some u =>
            have na : ad ≠ some a := fun z' => by
              have := r1.cell a z'
              rw [z] at this; cases this
            rw [x.keep a u na e w] at z; cases z
      · rcases x.own a z with w | w
        · exact .inr w
        · exact .inl w
  own := fun a z => by
    rcases y.own a z with q | q
    · exact x.own a q
    · by_cases w : Owned ρ σ a
      · exact .inl w
      · cases e : H a with
        | none => exact .inr rfl
        | some u =>
          have na : ad ≠ some a := fun z' => by
            have := r1.cell a z'
            rw [q] at this; cases this
          rw [x.keep a u na e w] at q; cases q
theorem FwS.ret (r : Rl K ad B σ H ρ c) (r1 : Rl K ad B1 σ1 H1 ρ1 c1) (x : FwS ad B σ H ρ B1 σ1 H1 ρ1) (y : FwR ad c2 B1 σ1 H1 ρ1 B2 H2) : FwR ad c2 B σ H ρ B2 H2 where
  bb := x.bb.trans y.bb
  bh := y.bh
  cell := y.cell
  keep := fun a o n h no => y.keep a o n (x.keep a o n h no) fun z => by
    rcases x.own a z with q | q
    · exact no q
    · rw [h] at q; cases q
  fresh := fun a o h n => by
    cases q : B1 a with
    | some u => exact x.fresh a u q n
    | none =>
      rcases y.fresh a o h q with z | z
      · by_cases w : Owned ρ σ a
        · exact .inr w
        · cases e : H a with
          | none => exact .inl rfl
          | some u =>
            have na : ad ≠ some a := fun z' => by
              have := r1.cell a z'
              rw [z] at this; cases this
            rw [x.keep a u na e w] at z; cases z
      · rcases x.own a z with w | w
        · exact .inr w
        · exact .inl w
/-- an expression alone -/
theorem FwS.ofFw (r : Rl K ad B σ H ρ c) (x : Fw ad c1 B H B1 H1) : FwS ad B σ H ρ B1 σ H1 ρ :=
  ⟨x.bb, fun a o n h _ => x.keep a o n h, fun a o h n => .inl (x.fresh a o h n), fun a z => .inl z⟩
theorem FwR.ofFw (r : Rl K ad B σ H ρ c) (x : Fw ad c1 B H B1 H1) : FwR ad c1 B σ H ρ B1 H1 :=
  ⟨x.bb, x.bh, x.cell, fun a o n h _ => x.keep a o n h, fun a o h n => .inl (x.fresh a o h n)⟩
theorem owned_set_of {i : Nat} {o : Option V} {s : Sl} (hl : σ.length = ρ.length) (ho : owns s = false) {a : Addr} (h : Owned (ρ.set i s) (σ.set i o) a) : Owned ρ σ a := by
  obtain ⟨j, t, e1, e2, e3⟩ := h
  by_cases hj : j = i
  · subst hj
    have hx : j < ρ.length := by
      have := (List.getElem?_eq_some_iff.mp e1).1
      rwa [List.length_set] at this
    rw [List.getElem?_set_self hx] at e1
    cases e1
    rw [ho] at e2; cases e2
  · rw [List.getElem?_set_ne (Ne.symm hj)] at e1 e3
    exact ⟨j, t, e1, e2, e3⟩
theorem FwS.setNo (r : Rl K ad B σ H ρ c) {i : Nat} {o : Option V} {s : Sl} (ho : owns s = false) : FwS ad B σ H ρ B (σ.set i o) H (ρ.set i s) :=
  ⟨Same.refl B, fun _ _ _ h _ => h, fun a o h n => (by rw [h] at n; cases n), fun a z => .inl (owned_set_of r.len ho z)⟩
theorem FwS.refl (r : Rl K ad B σ H ρ c) : FwS ad B σ H ρ B σ H ρ :=
  ⟨Same.refl B, fun _ _ _ h _ => h, fun a o h n => (by rw [h] at n; cases n), fun a z => .inl z⟩
end

/-- where a statement's result leads -/
def Post (K : PySem.W.Frag) (D : Ends) (ad : Option Addr) (B : Hp) (σ : L2.St) (H : Hp) (ρ : Rho) : Fl × Rho × Dr → Prop
  | (.nx, ρ', c') => ∀ B' σ' H', Rl K ad B' σ' H' ρ' c' → FwS ad B σ H ρ B' σ' H' ρ' → D.nx σ' H'
  | (.bk, ρ', c') => ∀ B' σ' H', Rl K ad B' σ' H' ρ' c' → FwS ad B σ H ρ B' σ' H' ρ' → D.bk σ' H'
  | (.ct, ρ', c') => ∀ B' σ' H', Rl K ad B' σ' H' ρ' c' → FwS ad B σ H ρ B' σ' H' ρ' → D.ct σ' H'
  | (.rt d, ρ', c') => ∀ v B' σ' H', Rl K ad B' σ' H' ρ' c' → FwS ad B σ H ρ B' σ' H' ρ' → Dp K B' v d → D.rt v H'
def ImpS (K : PySem.W.Frag) (t : TS) (f : SS) : Prop := ∀ (ad : Option Addr) (B : Hp) (σ : L2.St) (H : Hp) (ρ : Rho) (c : Dr) (r : Fl × Rho × Dr) (D : Ends), Rl K ad B σ H ρ c → f ρ c = some r → Post K D ad B σ H ρ r → t D σ H
def ImpG (K : PySem.W.Frag) (t : TG) (g : D → Rho → Option Rho) : Prop := ∀ (ad : Option Addr) (B : Hp) (σ : L2.St) (H : Hp) (ρ : Rho) (c : Dr) (v : V) (d : D) (ρ' : Rho) (Q : L2.St → Hp → Prop), Rl K ad B σ H ρ c → Dp K B v d → g d ρ = some ρ' →
  (∀ σ', Rl K ad B σ' H ρ' c → FwS ad B σ H ρ B σ' H ρ' → Q σ' H) → t v σ H Q
def ImpGs (K : PySem.W.Frag) (t : TGs) (g : List D → Rho → Option Rho) : Prop := ∀ (ad : Option Addr) (B : Hp) (σ : L2.St) (H : Hp) (ρ : Rho) (c : Dr) (vs : List V) (ds : List D) (ρ' : Rho) (Q : L2.St → Hp → Prop), Rl K ad B σ H ρ c → DpAll K B vs ds → g ds ρ = some ρ' →
  (∀ σ', Rl K ad B σ' H ρ' c → FwS ad B σ H ρ B σ' H ρ' → Q σ' H) → t vs σ H Q
section
variable {K : PySem.W.Frag}
/-! targets -/
def qN (i : Nat) : D → Rho → Option Rho := fun d ρ => some (ρ.set i (.im d))
theorem imp_gN (i : Nat) : ImpG K (gName i) (qN i) := fun ad B σ H ρ c v d ρ' Q r hd h q => by
  cases h
  exact q _ (r.setIm hd) (FwS.setNo r rfl)
def qNil : List D → Rho → Option Rho := fun ds ρ => match ds with
  | [] => some ρ
  | _ => none
def qCons (g : D → Rho → Option Rho) (h : List D → Rho → Option Rho) : List D → Rho → Option Rho := fun ds ρ => match ds with
  | d :: ds => (g d ρ).bind fun ρ' => h ds ρ'
  | [] => none
theorem imp_gNil : ImpGs K gNil qNil := fun ad B σ H ρ c vs ds ρ' Q r hd h q => by
  cases ds with
  | nil =>
    cases hd
    cases h
    exact ⟨rfl, q _ r (FwS.refl r)⟩
  | cons => cases h
theorem imp_gCons {t : TG} {u : TGs} {g : D → Rho → Option Rho} {g' : List D → Rho → Option Rho} (h1 : ImpG K t g) (h2 : ImpGs K u g') : ImpGs K (gCons t u) (qCons g g') := fun ad B σ H ρ c vs ds ρ' Q r hd h q => by
  cases ds with
  | nil => cases h
  | cons d ds =>
    cases hd with
    | cons hv hr =>
      obtain ⟨ρ1, e1, e2⟩ := Option.bind_eq_some_iff.mp h
      exact ⟨_, _, rfl, h1 ad B σ H ρ c _ d ρ1 _ r hv e1 fun σ1 r1 f1 => h2 ad B σ1 H ρ1 c _ ds ρ' Q r1 hr e2 fun σ2 r2 f2 => q σ2 r2 (FwS.trans r r1 f1 f2)⟩
def qTup (g : List D → Rho → Option Rho) : D → Rho → Option Rho := fun d ρ => match d with
  | .tuple ds => g ds ρ
  | _ => none
theorem imp_gTup {n : Nat} {u : TGs} {g : List D → Rho → Option Rho} (h : ImpGs K u g) (hn : ∀ ds ρ ρ', g ds ρ = some ρ' → ds.length = n) : ImpG K (gTup K n u) (qTup g) := fun ad B σ H ρ c v d ρ' Q r hd e q => by
  cases d with
  | tuple ds =>
    obtain ⟨a, xs, rfl, h1, h2⟩ := dp_tuple hd
    exact ⟨a, xs, rfl, SqT.of (r.sub _ _ h1), (dpAll_len h2).trans (hn ds ρ ρ' e), h ad B σ H ρ c xs ds ρ' Q r h2 e q⟩
  | _ => cases e
theorem qNil_len : ∀ ds ρ ρ', qNil ds ρ = some ρ' → ds.length = 0 := fun ds ρ ρ' h => by
  cases ds with
  | nil => rfl
  | cons => cases h
theorem qCons_len {g : D → Rho → Option Rho} {g' : List D → Rho → Option Rho} {n : Nat} (h : ∀ ds ρ ρ', g' ds ρ = some ρ' → ds.length = n) : ∀ ds ρ ρ', qCons g g' ds ρ = some ρ' → ds.length = n + 1 := fun ds ρ ρ' e => by
  cases ds with
  | nil => cases e
  | cons d ds =>
    obtain ⟨ρ1, e1, e2⟩ := Option.bind_eq_some_iff.mp e
    rw [List.length_cons, h ds ρ1 ρ' e2]

/-! blocks -/
def sNext : SS := fun ρ c => some (.nx, ρ, c)
theorem imp_next : ImpS K tNext sNext := fun ad B σ H ρ c r D R h q => by
  cases h
  exact q B σ H R (FwS.refl R)
def sSeq (f g : SS) : SS := fun ρ c => (f ρ c).bind fun r => match r with
  | (.nx, ρ1, c1) => g ρ1 c1
  | r => some r
theorem Post.trans {D : Ends} {ad : Option Addr} {B B1 : Hp} {σ σ1 : L2.St} {H H1 : Hp} {ρ ρ1 : Rho} {c c1 : Dr} {r : Fl × Rho × Dr} (R : Rl K ad B σ H ρ c) (R1 : Rl K ad B1 σ1 H1 ρ1 c1) (x : FwS ad B σ H ρ B1 σ1 H1 ρ1)
    (h : Post K D ad B σ H ρ r) : Post K D ad B1 σ1 H1 ρ1 r := by
  obtain ⟨f, ρ', c'⟩ := r
  cases f with
  | nx => exact fun B' σ' H' r' y => h B' σ' H' r' (FwS.trans R R1 x y)
  | bk => exact fun B' σ' H' r' y => h B' σ' H' r' (FwS.trans R R1 x y)
  | ct => exact fun B' σ' H' r' y => h B' σ' H' r' (FwS.trans R R1 x y)
  | rt d => exact fun v B' σ' H' r' y e => h v B' σ' H' r' (FwS.trans R R1 x y) e
theorem imp_seq {t u : TS} {f g : SS} (h1 : ImpS K t f) (h2 : ImpS K u g) : ImpS K (tSeq t u) (sSeq f g) := fun ad B σ H ρ c r D R h q => by
  obtain ⟨r1, e1, e2⟩ := Option.bind_eq_some_iff.mp h
  refine h1 ad B σ H ρ c r1 _ R e1 ?_
  obtain ⟨f1, ρ1, c1⟩ := r1
  cases f1 with
  | nx => exact fun B' σ' H' r' x => h2 ad B' σ' H' ρ1 c1 r D r' e2 (Post.trans R r' x q)
  | bk => cases e2; exact q
  | ct => cases e2; exact q
  | rt d => cases e2; exact q
def sCnt : SS := fun ρ c => some (.ct, ρ, c)
theorem imp_cnt : ImpS K tCont sCnt := fun ad B σ H ρ c r D R h q => by
  cases h
  exact q B σ H R (FwS.refl R)
theorem imp_never {f : SS} (h : ∀ ρ c, f ρ c = none) : ImpS K tNever f := fun ad B σ H ρ c r D R e q => by
  rw [h] at e; cases e
def sNever : SS := fun _ _ => none
/-- a statement of an expression -/
def sDrop (a : SE) : SS := fun ρ c => (a ρ c).bind fun p => some (.nx, ρ, p.2)
theorem imp_drop {t : TE} {a : SE} (h : ImpE K t a) : ImpS K (tDrop t) (sDrop a) := fun ad B σ H ρ c r D R e q => by
  obtain ⟨⟨d, c1⟩, e1, e2⟩ := Option.bind_eq_some_iff.mp e
  cases e2
  exact h ad B σ H ρ c d c1 _ R e1 fun v B' H' x dv => q B' σ H' (R.fw x) (FwS.ofFw R x)
def sRet (a : SE) : SS := fun ρ c => (a ρ c).bind fun p => some (.rt p.1, ρ, p.2)
theorem imp_ret {t : TE} {a : SE} (h : ImpE K t a) : ImpS K (tRet t) (sRet a) := fun ad B σ H ρ c r D R e q => by
  obtain ⟨⟨d, c1⟩, e1, e2⟩ := Option.bind_eq_some_iff.mp e
  cases e2
  exact h ad B σ H ρ c d c1 _ R e1 fun v B' H' x dv => q v B' σ H' (R.fw x) (FwS.ofFw R x) dv
def sIfS (t : SB) (f g : SS) : SS := fun ρ c => (t ρ c).bind fun p => if p.1 = true then f ρ p.2 else g ρ p.2
theorem imp_if {t : TT} {u v : TS} {s : SB} {f g : SS} (ht : ImpT K t s) (h1 : ImpS K u f) (h2 : ImpS K v g) : ImpS K (tIfS t u v) (sIfS s f g) := fun ad B σ H ρ c r D R e q => by
  obtain ⟨⟨b, c1⟩, e1, e2⟩ := Option.bind_eq_some_iff.mp e
  refine ht ad B σ H ρ c b c1 _ R e1 fun B1 H1 x => ?_
  cases b with
  | true => exact h1 ad B1 σ H1 ρ c1 r D (R.fw x) e2 (Post.trans R (R.fw x) (FwS.ofFw R x) q)
  | false => exact h2 ad B1 σ H1 ρ c1 r D (R.fw x) e2 (Post.trans R (R.fw x) (FwS.ofFw R x) q)
/-! stores -/
def sAsg (a : SE) (g : D → Rho → Option Rho) : SS := fun ρ c => (a ρ c).bind fun p => (g p.1 ρ).bind fun ρ' => some (.nx, ρ', p.2)
theorem imp_asg {t : TE} {u : TG} {a : SE} {g : D → Rho → Option Rho} (h : ImpE K t a) (hg : ImpG K u g) : ImpS K (tAsg t u) (sAsg a g) := fun ad B σ H ρ c r D R e q => by
  obtain ⟨⟨d, c1⟩, e1, e2⟩ := Option.bind_eq_some_iff.mp e
  obtain ⟨ρ', e3, e4⟩ := Option.bind_eq_some_iff.mp e2
  cases e4
  refine h ad B σ H ρ c d c1 _ R e1 fun v B' H' x dv => ?_
  exact hg ad B' σ H' ρ c1 v d ρ' _ (R.fw x) dv e3 fun σ' r' y => q B' σ' H' r' (FwS.trans R (R.fw x) (FwS.ofFw R x) y)
/-- x op= e at plain data -/
def sAug (g : D → D → Option D) (i : Nat) (a : SE) : SS := fun ρ c => match ρ[i]? with
  | some (.im d) => (a ρ c).bind fun p => (g d p.1).bind fun z => some (.nx, ρ.set i (.im z), p.2)
  | _ => none
theorem imp_aug {i : Nat} {t : TE} {ti : TIp} {a : SE} {g : D → D → Option D} (hi : OpD K ti g) (h : ImpE K t a) : ImpS K (tAug i t ti) (sAug g i a) := fun ad B σ H ρ c r D R e q => by
  unfold sAug at e
  split at e
  · rename_i d e0
    obtain ⟨v, g1, g2⟩ := R.slot i _ e0
    obtain ⟨⟨d1, c1⟩, e1, e2⟩ := Option.bind_eq_some_iff.mp e
    obtain ⟨z, e3, e4⟩ := Option.bind_eq_some_iff.mp e2
    cases e4
    refine ⟨v, g1, h ad B σ H ρ c d1 c1 _ R e1 fun u B1 H1 x du => ?_⟩
    refine hi B1 H1 v u d d1 z _ x.bh (dp_mono x.bb _ _ g2) du e3 fun w B2 H2 y dw => ?_
    have f2 : Fw ad c1 B H B2 H2 := R.trans x (y.fw x.cell)
    exact q B2 _ H2 ((R.fw f2).setIm dw) (FwS.trans R (R.fw f2) (FwS.ofFw R f2) (FwS.setNo (R.fw f2) rfl))
  · cases e

/-! ### lists of one's own -/
/-- an expression that makes a new list: its items -/
abbrev SL := Rho → Dr → Option (List D × Dr)
def ImpL (K : PySem.W.Frag) (t : TE) (f : SL) : Prop := ∀ (ad : Option Addr) (B : Hp) (σ : L2.St) (H : Hp) (ρ : Rho) (c : Dr) (ds : List D) (c' : Dr) (Q : VK), Rl K ad B σ H ρ c → f ρ c = some (ds, c') →
  (∀ a vs B' H' H1, Fw ad c' B H B' H1 → H1 a = none → H' = upd H1 a (.lst vs) → DpAll K B' vs ds → Q (.ref a) H') → t σ H Q
/-- as plain data -/
def sOfL (f : SL) : SE := fun ρ c => (f ρ c).bind fun p => some (.list p.1, p.2)
theorem imp_ofL {t : TE} {f : SL} (h : ImpL K t f) : ImpE K t (sOfL f) := fun ad B σ H ρ c d c' Q R e q => by
  obtain ⟨⟨ds, c1⟩, e1, e2⟩ := Option.bind_eq_some_iff.mp e
  cases e2
  refine h ad B σ H ρ c ds _ _ R e1 fun a vs B' H' H1 x n eH dv => ?_
  subst eH
  exact q _ (upd B' a (.lst vs)) _ (R.trans x ((Grow.new x.bh n).fw x.cell)) (dp_newLst (x.bh.free n) dv)
theorem Rl.setOl {ad : Option Addr} {B H : Hp} {σ : L2.St} {ρ : Rho} {c : Dr} (r : Rl K ad B σ H ρ c) {i : Nat} {a : Addr} {vs : List V} {ds : List D} (n : H a = none) (h : DpAll K B vs ds) :
    Rl K ad B (σ.set i (some (.ref a))) (upd H a (.lst vs)) (ρ.set i (.ol ds)) c ∧ FwS ad B σ H ρ B (σ.set i (some (.ref a))) (upd H a (.lst vs)) (ρ.set i (.ol ds)) := by
  have nb : B a = none := r.sub.free n
  have na : ad ≠ some a := fun e => by rw [r.cell a e] at n; cases n
  have sm : Same H (upd H a (.lst vs)) := same_new n
  have nown : ∀ b, Owned ρ σ b → b ≠ a := fun b ho e => by
    obtain ⟨_, _, o, q⟩ := r.ownB ho
    rw [e, n] at q; cases q
  have x : Fw ad c B H B (upd H a (.lst vs)) := ⟨Same.refl B, fun b o q => sm b o (r.sub b o q), fun b o _ q => sm b o q, fun b e => sm b _ (r.cell b e), fun b o q1 q2 => by rw [q1] at q2; cases q2⟩
  have R1 := r.fw x
  refine ⟨⟨R1.sub, R1.cell, R1.cfree, by rw [List.length_set, List.length_set]; exact r.len, fun j s e => ?_, fun j k s t b hjk e1 e2 o1 o2 g1 => ?_⟩, ⟨Same.refl B, fun b o _ q _ => sm b o q, fun b o q1 q2 => (by rw [q1] at q2; cases q2), fun b ho => ?_⟩⟩
  · by_cases hj : j = i
    · subst hj
      have hl : j < ρ.length := by
        have := (List.getElem?_eq_some_iff.mp e).1
        rwa [List.length_set] at this
      rw [List.getElem?_set_self hl] at e
      cases e
      rw [List.getElem?_set_self (by rw [r.len]; exact hl)]
      exact ⟨a, vs, rfl, upd_same, nb, na, h⟩
    · rw [List.getElem?_set_ne (Ne.symm hj)] at e ⊢
      exact R1.slot j s e
  · by_cases hj : j = i
    · subst hj
      have hl : j < ρ.length := by
        have := (List.getElem?_eq_some_iff.mp e1).1
        rwa [List.length_set] at this
      rw [List.getElem?_set_self (by rw [r.len]; exact hl)] at g1
      cases g1
      rw [List.getElem?_set_ne hjk] at e2 ⊢
      exact fun z => nown _ ⟨k, t, e2, o2, z⟩ rfl
    · rw [List.getElem?_set_ne (Ne.symm hj)] at e1 g1
      by_cases hk : k = i
      · subst hk
        have hl : k < ρ.length := by
          have := (List.getElem?_eq_some_iff.mp e2).1
          rwa [List.length_set] at this
        rw [List.getElem?_set_self (by rw [r.len]; exact hl)]
        exact fun z => by
          cases z
          exact nown _ ⟨j, s, e1, o1, g1⟩ rfl
      · rw [List.getElem?_set_ne (Ne.symm hk)] at e2 ⊢
        exact r.sep j k s t b hjk e1 e2 o1 o2 g1
  · obtain ⟨j, t, e1, e2, e3⟩ := ho
    by_cases hj : j = i
    · subst hj
      have hl : j < ρ.length := by
        have := (List.getElem?_eq_some_iff.mp e1).1
        rwa [List.length_set] at this
      rw [List.getElem?_set_self (by rw [r.len]; exact hl)] at e3
      cases e3
      exact .inr n
    · rw [List.getElem?_set_ne (Ne.symm hj)] at e1 e3
      exact .inl ⟨j, t, e1, e2, e3⟩
/-- x = a new list, to be changed -/
def sAsgL (f : SL) (i : Nat) : SS := fun ρ c => (f ρ c).bind fun p => some (.nx, ρ.set i (.ol p.1), p.2)
theorem imp_asgL {t : TE} {f : SL} (i : Nat) (h : ImpL K t f) : ImpS K (tAsg t (gName i)) (sAsgL f i) := fun ad B σ H ρ c r D R e q => by
  obtain ⟨⟨ds, c1⟩, e1, e2⟩ := Option.bind_eq_some_iff.mp e
  cases e2
  refine h ad B σ H ρ c ds c1 _ R e1 fun a vs B' H' H1 x n eH dv => ?_
  subst eH
  obtain ⟨r2, y⟩ := (R.fw x).setOl (i := i) n dv
  exact q B' _ _ r2 (FwS.trans R (R.fw x) (FwS.ofFw R x) y)
/-- the object at a slot of one's own is changed -/
theorem Rl.chOwn {ad : Option Addr} {B H : Hp} {σ : L2.St} {ρ : Rho} {c : Dr} (r : Rl K ad B σ H ρ c) {i : Nat} {a : Addr} {s s' : Sl} {o' : HO} (e : ρ[i]? = some s) (ho : owns s = true) (eσ : σ[i]? = some (some (.ref a)))
    (hs : SlOk K ad B (upd H a o') (some (some (.ref a))) s') : Rl K ad B σ (upd H a o') (ρ.set i s') c ∧ FwS ad B σ H ρ B σ (upd H a o') (ρ.set i s') := by
  obtain ⟨nb, na, o0, h0⟩ := r.ownB ⟨i, s, e, ho, eσ⟩
  have hl : i < ρ.length := (List.getElem?_eq_some_iff.mp e).1
  have other : ∀ (j : Nat) (t : Sl) (b : Addr), j ≠ i → ρ[j]? = some t → σ[j]? = some (some (.ref b)) → owns t = true → b ≠ a := fun j t b hj e1 e2 e3 z => by
    subst z
    exact r.sep i j s t b (Ne.symm hj) e e1 ho e3 eσ e2
  have own' : ∀ b, Owned (ρ.set i s') σ b → Owned ρ σ b := fun b ⟨j, t, e1, e2, e3⟩ => by
    by_cases hj : j = i
    · subst hj; exact ⟨j, s, e, ho, e3⟩
    · rw [List.getElem?_set_ne (Ne.symm hj)] at e1
      exact ⟨j, t, e1, e2, e3⟩
  refine ⟨⟨fun b o q => ?_, fun b q => ?_, r.cfree, by rw [List.length_set]; exact r.len, fun j t e1 => ?_, fun j k t t' b hjk e1 e2 o1 o2 g1 => ?_⟩, ⟨Same.refl B, fun b o n q no => ?_, fun b o q1 q2 => (by rw [q1] at q2; cases q2), fun b z => .inl (own' b z)⟩⟩
  · rw [upd_ne (fun z => by subst z; rw [nb] at q; cases q)]; exact r.sub b o q
  · rw [upd_ne (fun z => by subst z; exact na q)]; exact r.cell b q
  · by_cases hj : j = i
    · subst hj
      rw [List.getElem?_set_self hl] at e1
      cases e1
      rw [eσ]
      exact hs
    · rw [List.getElem?_set_ne (Ne.symm hj)] at e1
      have q := r.slot j t e1
      cases t with
      | un => trivial
      | im d => exact q
      | ol xs =>
        obtain ⟨b, us, g1, g2, g3, g4, g5⟩ := q
        exact ⟨b, us, g1, by rw [upd_ne (other j _ b hj e1 g1 rfl)]; exact g2, g3, g4, g5⟩
      | od xs =>
        obtain ⟨b, us, g1, g2, g3, g4, g5⟩ := q
        exact ⟨b, us, g1, by rw [upd_ne (other j _ b hj e1 g1 rfl)]; exact g2, g3, g4, g5⟩
      | fd xs =>
        obtain ⟨b, w, us, g1, g2, g3, g4, g5⟩ := q
        refine ⟨b, w, us, g1, ?_, g3, g4, g5⟩
        rw [upd_ne (fun z => ?_)]
        · exact g2
        · subst z
          have q2 := r.slot i s e
          cases s with
          | ol ys =>
            obtain ⟨b', us', k1, k2, _⟩ := q2
            rw [eσ] at k1; cases k1
            rw [g2] at k2; cases k2
          | od ys =>
            obtain ⟨b', us', k1, k2, _⟩ := q2
            rw [eσ] at k1; cases k1
            rw [g2] at k2; cases k2
          | _ => cases ho
      | op v => exact q
      | dr => exact q
  · have p1 : ∃ s', ρ[j]? = some s' ∧ owns s' = true := by
      by_cases hj : j = i
      · subst hj; exact ⟨s, e, ho⟩
      · rw [List.getElem?_set_ne (Ne.symm hj)] at e1; exact ⟨t, e1, o1⟩
    have p2 : ∃ s', ρ[k]? = some s' ∧ owns s' = true := by
      by_cases hk : k = i
      · subst hk; exact ⟨s, e, ho⟩
      · rw [List.getElem?_set_ne (Ne.symm hk)] at e2; exact ⟨t', e2, o2⟩
    obtain ⟨s1, f1, f2⟩ := p1
    obtain ⟨s2, f3, f4⟩ := p2
    exact r.sep j k s1 s2 b hjk f1 f3 f2 f4 g1
  · rw [upd_ne (fun z => by subst z; exact no ⟨i, s, e, ho, eσ⟩)]; exact q
theorem Rl.chOl {ad : Option Addr} {B H : Hp} {σ : L2.St} {ρ : Rho} {c : Dr} (r : Rl K ad B σ H ρ c) {i : Nat} {a : Addr} {s : Sl} {vs : List V} {ds : List D} (e : ρ[i]? = some s) (ho : owns s = true) (eσ : σ[i]? = some (some (.ref a)))
    (h : DpAll K B vs ds) : Rl K ad B σ (upd H a (.lst vs)) (ρ.set i (.ol ds)) c ∧ FwS ad B σ H ρ B σ (upd H a (.lst vs)) (ρ.set i (.ol ds)) := by
  obtain ⟨nb, na, _⟩ := r.ownB ⟨i, s, e, ho, eσ⟩
  exact r.chOwn e ho eσ ⟨a, vs, rfl, upd_same, nb, na, h⟩
/-- an object that nobody owns is put at a slot -/
theorem Rl.putOwn {ad : Option Addr} {B H : Hp} {σ : L2.St} {ρ : Rho} {c : Dr} (r : Rl K ad B σ H ρ c) {i : Nat} {a : Addr} {s : Sl} (no : ¬ Owned ρ σ a) (hs : SlOk K ad B H (some (some (.ref a))) s) :
    Rl K ad B (σ.set i (some (.ref a))) H (ρ.set i s) c ∧ ∀ b, Owned (ρ.set i s) (σ.set i (some (.ref a))) b → Owned ρ σ b ∨ b = a := by
  have p : ∀ {j : Nat} {t : Sl}, (ρ.set i s)[j]? = some t → (j = i ∧ t = s ∧ (σ.set i (some (.ref a)))[j]? = some (some (.ref a))) ∨ (j ≠ i ∧ ρ[j]? = some t ∧ (σ.set i (some (.ref a)))[j]? = σ[j]?) := fun {j t} e => by
    by_cases hj : j = i
    · subst hj
      have hl : j < ρ.length := by
        have := (List.getElem?_eq_some_iff.mp e).1
        rwa [List.length_set] at this
      rw [List.getElem?_set_self hl] at e
      cases e
      exact .inl ⟨rfl, rfl, List.getElem?_set_self (by rw [r.len]; exact hl)⟩
    · rw [List.getElem?_set_ne (Ne.symm hj)] at e
      exact .inr ⟨hj, e, List.getElem?_set_ne (Ne.symm hj)⟩
  refine ⟨⟨r.sub, r.cell, r.cfree, by rw [List.length_set, List.length_set]; exact r.len, fun j t e => ?_, fun j k t t' b hjk e1 e2 o1 o2 g => ?_⟩, fun b ⟨j, t, e1, e2, e3⟩ => ?_⟩
  · rcases p e with ⟨z1, z2, z3⟩ | ⟨z1, z2, z3⟩
    · rw [z3, z2]; exact hs
    · rw [z3]; exact r.slot j t z2
  · rcases p e1 with ⟨z1, z2, z3⟩ | ⟨z1, z2, z3⟩
    · rcases p e2 with ⟨y1, y2, y3⟩ | ⟨y1, y2, y3⟩
      · exact absurd (z1.trans y1.symm) hjk
      · rw [z3] at g
        cases g
        rw [y3]
        exact fun z => no ⟨k, t', y2, o2, z⟩
    · rcases p e2 with ⟨y1, y2, y3⟩ | ⟨y1, y2, y3⟩
      · rw [y3]
        rw [z3] at g
        exact fun z => by
          cases z
          exact no ⟨j, t, z2, o1, g⟩
      · rw [z3] at g
        rw [y3]
        exact r.sep j k t t' b hjk z2 y2 o1 o2 g
  · rcases p e1 with ⟨z1, z2, z3⟩ | ⟨z1, z2, z3⟩
    · rw [z3] at e3
      cases e3
      exact .inr rfl
    · rw [z3] at e3
      exact .inl ⟨j, t, z2, e2, e3⟩
/-! freeze, forget -/
theorem Rl.frz {ad : Option Addr} {B H : Hp} {σ : L2.St} {ρ : Rho} {c : Dr} (r : Rl K ad B σ H ρ c) {i : Nat} {ds : List D} (e : ρ[i]? = some (.ol ds)) : ∃ B', Rl K ad B' σ H (ρ.set i (.im (.list ds))) c ∧ FwS ad B σ H ρ B' σ H (ρ.set i (.im (.list ds))) ∧
    ∃ a vs, σ[i]? = some (some (.ref a)) ∧ B a = none ∧ B' = upd B a (.lst vs) ∧ H a = some (.lst vs) ∧ ad ≠ some a := by
  obtain ⟨a, vs, g1, g2, g3, g4, g5⟩ := r.slot i _ e
  have hl : i < ρ.length := (List.getElem?_eq_some_iff.mp e).1
  have bb : Same B (upd B a (.lst vs)) := same_new g3
  have oth : ∀ (j : Nat) (t : Sl) (b : Addr), j ≠ i → ρ[j]? = some t → owns t = true → σ[j]? = some (some (.ref b)) → b ≠ a := fun j t b hj e1 o1 g z => by
    subst z
    exact r.sep i j _ t b (Ne.symm hj) e e1 rfl o1 g1 g
  refine ⟨upd B a (.lst vs), ⟨fun b o q => ?_, r.cell, fun b q => ?_, by rw [List.length_set]; exact r.len, fun j t e1 => ?_, fun j k s t b hjk e1 e2 o1 o2 z => ?_⟩, ⟨bb, fun _ _ _ q _ => q, fun b o q n => ?_, fun b z => ?_⟩, a, vs, g1, g3, rfl, g2, g4⟩
  · by_cases hb : b = a
    · subst hb; rw [upd_same] at q; cases q; exact g2
    · rw [upd_ne hb] at q; exact r.sub b o q
  · rw [upd_ne (fun z => by subst z; exact g4 q)]; exact r.cfree b q
  · by_cases hj : j = i
    · subst hj
      rw [List.getElem?_set_self hl] at e1
      cases e1
      exact ⟨.ref a, g1, dp_newLst g3 g5⟩
    · rw [List.getElem?_set_ne (Ne.symm hj)] at e1
      have q := r.slot j t e1
      cases t with
      | un => trivial
      | im d => obtain ⟨v, k1, k2⟩ := q; exact ⟨v, k1, dp_mono bb _ _ k2⟩
      | ol xs =>
        obtain ⟨b, us, k1, k2, k3, k4, k5⟩ := q
        exact ⟨b, us, k1, k2, by rw [upd_ne (oth j _ b hj e1 rfl k1)]; exact k3, k4, dpAll_mono bb _ _ k5⟩
      | od xs =>
        obtain ⟨b, us, k1, k2, k3, k4, k5⟩ := q
        exact ⟨b, us, k1, k2, by rw [upd_ne (oth j _ b hj e1 rfl k1)]; exact k3, k4, kv_mono bb k5⟩
      | fd xs =>
        obtain ⟨b, w, us, k1, k2, k3, k4, k5⟩ := q
        refine ⟨b, w, us, k1, k2, ?_, k4, kv_mono bb k5⟩
        rw [upd_ne (fun z => by subst z; rw [g2] at k2; cases k2)]
        exact k3
      | op v => exact q
      | dr => exact q
  · have n1 : j ≠ i := fun z' => by
      subst z'
      rw [List.getElem?_set_self hl] at e1; cases e1; cases o1
    have n2 : k ≠ i := fun z' => by
      subst z'
      rw [List.getElem?_set_self hl] at e2; cases e2; cases o2
    rw [List.getElem?_set_ne (Ne.symm n1)] at e1
    rw [List.getElem?_set_ne (Ne.symm n2)] at e2
    exact r.sep j k s t b hjk e1 e2 o1 o2 z
  · by_cases hb : b = a
    · subst hb; exact .inr ⟨i, _, e, rfl, g1⟩
    · rw [upd_ne hb, n] at q; cases q
  · obtain ⟨j, t, e1, e2, e3⟩ := z
    have n1 : j ≠ i := fun z' => by
      subst z'
      rw [List.getElem?_set_self hl] at e1; cases e1; cases e2
    rw [List.getElem?_set_ne (Ne.symm n1)] at e1
    exact .inl ⟨j, t, e1, e2, e3⟩
/-- from here on the list at i is plain data -/
def sFrz (i : Nat) (f : SS) : SS := fun ρ c => match ρ[i]? with
  | some (.ol ds) => f (ρ.set i (.im (.list ds))) c
  | _ => none
theorem imp_frz {t : TS} {f : SS} (i : Nat) (h : ImpS K t f) : ImpS K t (sFrz i f) := fun ad B σ H ρ c r D R e q => by
  unfold sFrz at e
  split at e
  · rename_i ds e0
    obtain ⟨B', R', x, _⟩ := R.frz e0
    exact h ad B' σ H _ c r D R' e (Post.trans R R' x q)
  · cases e
theorem Rl.forget {ad : Option Addr} {B H : Hp} {σ : L2.St} {ρ : Rho} {c : Dr} (r : Rl K ad B σ H ρ c) (i : Nat) : Rl K ad B σ H (ρ.set i .un) c ∧ FwS ad B σ H ρ B σ H (ρ.set i .un) := by
  have p : ∀ {j : Nat} {s : Sl}, (ρ.set i .un)[j]? = some s → s = .un ∨ ρ[j]? = some s := fun {j s} e => by
    by_cases hj : j = i
    · subst hj
      have hl : j < ρ.length := by
        have := (List.getElem?_eq_some_iff.mp e).1
        rwa [List.length_set] at this
      rw [List.getElem?_set_self hl] at e
      cases e; exact .inl rfl
    · rw [List.getElem?_set_ne (Ne.symm hj)] at e; exact .inr e
  refine ⟨⟨r.sub, r.cell, r.cfree, by rw [List.length_set]; exact r.len, fun j s e => ?_, fun j k s t a hjk e1 e2 o1 o2 g => ?_⟩, ⟨Same.refl B, fun _ _ _ q _ => q, fun b o q n => (by rw [q] at n; cases n), fun a ⟨j, s, e1, e2, e3⟩ => ?_⟩⟩
  · rcases p e with z | z
    · subst z; trivial
    · exact r.slot j s z
  · rcases p e1 with z | z
    · subst z; cases o1
    · rcases p e2 with z' | z'
      · subst z'; cases o2
      · exact r.sep j k s t a hjk z z' o1 o2 g
  · rcases p e1 with z | z
    · subst z; cases e2
    · exact .inl ⟨j, s, z, e2, e3⟩
def unset (is : List Nat) (ρ : Rho) : Rho := is.foldl (fun ρ i => ρ.set i .un) ρ
theorem Rl.forgets {ad : Option Addr} {B H : Hp} {σ : L2.St} : ∀ (is : List Nat) {ρ : Rho} {c : Dr}, Rl K ad B σ H ρ c → Rl K ad B σ H (unset is ρ) c ∧ FwS ad B σ H ρ B σ H (unset is ρ)
  | [], ρ, c, r => ⟨r, FwS.refl r⟩
  | i :: is, ρ, c, r => by
    obtain ⟨r1, f1⟩ := r.forget i
    obtain ⟨r2, f2⟩ := Rl.forgets is r1
    exact ⟨r2, FwS.trans r r1 f1 f2⟩
end
end DL
/-! DLd: changes of one's own lists; loops; comprehensions; calls. -/
namespace DL
open PySem PySem.Spec L2
section
variable {K : PySem.W.Frag}

/-! ### a list of one's own -/
theorem dpAll_at {B : Hp} {ds : List D} {vs : List V} {i : Int} {d : D} (h : DpAll K B vs ds) (e : atI ds i = some d) : ∃ v, atI vs i = some v ∧ Dp K B v d := by
  unfold atI at e ⊢
  rw [dpAll_len h]
  obtain ⟨j, e1, e2⟩ := Option.bind_eq_some_iff.mp e
  rw [e1]
  exact dpAll_get h e2
/-- x.append(e) -/
def sApp (i : Nat) (a : SE) : SS := fun ρ c => match ρ[i]? with
  | some (.ol xs) => (a ρ c).bind fun p => if few xs.length = true then some (.nx, ρ.set i (.ol (xs ++ [p.1])), p.2) else none
  | _ => none
theorem imp_app {i : Nat} {t : TE} {a : SE} (h : ImpE K t a) : ImpS K (tDrop (tBM K "list" rAppend (tVar i) (tCons t tNil))) (sApp i a) := fun ad B σ H ρ c r D R e q => by
  unfold sApp at e
  split at e
  · rename_i xs e0
    obtain ⟨⟨d, c1⟩, e1, e2⟩ := Option.bind_eq_some_iff.mp e
    split at e2
    · rename_i hz
      cases e2
      obtain ⟨p, vs, g1, g2, g3, g4, g5⟩ := R.slot i _ e0
      refine ⟨.ref p, g1, .inl ⟨rfl, _, SqL.of g2⟩, h ad B σ H ρ c d c1 _ R e1 fun v B1 H1 x dv => ?_⟩
      have R1 := R.fw x
      have hp : H1 p = some (.lst vs) := x.keep p _ g4 g2
      obtain ⟨R2, y⟩ := R1.chOl e0 rfl g1 (dpAll_snoc (dpAll_mono x.bb _ _ g5) dv)
      refine ⟨p, vs, v, rfl, rfl, hp, by rw [dpAll_len g5]; exact few_lt hz, ?_⟩
      exact q B1 σ _ R2 (FwS.trans R R1 (FwS.ofFw R x) y)
    · cases e2
  · cases e
/-- x[k] = e -/
def sSetI (i : Nat) (k a : SE) : SS := fun ρ c => match ρ[i]? with
  | some (.ol xs) => (a ρ c).bind fun p => (k ρ p.2).bind fun q => match q.1 with
    | .int j => (ixN xs.length j).bind fun m => some (.nx, ρ.set i (.ol (xs.set m p.1)), q.2)
    | _ => none
  | _ => none
theorem imp_setI {i : Nat} {t u : TE} {k a : SE} (hk : ImpE K u k) (h : ImpE K t a) : ImpS K (tAsg t (gSub (tVar i) u rSetL)) (sSetI i k a) := fun ad B σ H ρ c r D R e q => by
  unfold sSetI at e
  split at e
  · rename_i xs e0
    obtain ⟨⟨d, c1⟩, e1, e2⟩ := Option.bind_eq_some_iff.mp e
    obtain ⟨⟨kd, c2⟩, e3, e4⟩ := Option.bind_eq_some_iff.mp e2
    cases kd with
    | int j =>
      obtain ⟨m, e5, e6⟩ := Option.bind_eq_some_iff.mp e4
      cases e6
      refine h ad B σ H ρ c d c1 _ R e1 fun v B1 H1 x dv => ?_
      have R1 := R.fw x
      obtain ⟨p, vs, g1, g2, g3, g4, g5⟩ := R1.slot i _ e0
      refine ⟨.ref p, g1, hk ad B1 σ H1 ρ c1 (.int j) c2 _ R1 e3 fun w B2 H2 y dw => ?_⟩
      have R2 := R1.fw y
      have hp : H2 p = some (.lst vs) := y.keep p _ g4 g2
      obtain ⟨R3, z⟩ := R2.chOl e0 rfl g1 (dpAll_set (dp_mono y.bb _ _ dv) m (dpAll_mono y.bb _ _ g5))
      refine ⟨p, vs, j, m, rfl, dp_int dw, hp, by rw [dpAll_len g5]; exact e5, ?_⟩
      exact q B2 σ _ R3 (FwS.trans R R2 (FwS.trans R R1 (FwS.ofFw R x) (FwS.ofFw R1 y)) z)
    | _ => cases e4
  · cases e
/-- x[k] op= e -/
theorem get_list {X : Cx} : PGet X (rIxL X.K) := fun pins s σ H o i ov iv Q I ro ri h => by
  obtain ⟨p, xs, k, v, rfl, rfl, hq, hv, q⟩ := h
  cases ro
  obtain ⟨t, rfl⟩ := ri
  obtain ⟨its, r, pl, hz⟩ := I.list hq
  obtain ⟨j, h1, h2, h3, h4, h5⟩ := atI_get hv
  obtain ⟨u, hu, ru⟩ := r.get h2
  have hl := r.length
  have hn := line63
  have fin : EP X pins σ Q u s := ⟨v, H, I, ru, q⟩
  by_cases h0 : 0 ≤ k
  · have hj : k.toNat = j := by
      rw [seqIndex_of h0 h5] at h1
      exact Option.some.inj h1
    exact PySem.wpAny_getItem_list pl.isList h0 (by omega) (by rw [hj]; simpa using hu) fin
  · have hj : (k + (its.toArray.size : Int)).toNat = j := by
      rw [seqIndex_neg (by omega) h4] at h1
      rw [List.size_toArray, ← hl]
      exact Option.some.inj h1
    exact PySem.wpAny_getItem_list_neg pl.isList (by omega) (by rw [List.size_toArray] <;> omega) (by omega) (by rw [hj]; simpa using hu) fin
def sAugI (g : D → D → Option D) (i : Nat) (k a : SE) : SS := fun ρ c => match ρ[i]? with
  | some (.ol xs) => (k ρ c).bind fun q => match q.1 with
    | .int j => (ixN xs.length j).bind fun m => (xs[m]?).bind fun x0 => (a ρ q.2).bind fun p => (g x0 p.1).bind fun z => some (.nx, ρ.set i (.ol (xs.set m z)), p.2)
    | _ => none
  | _ => none
theorem imp_augI {i : Nat} {t u : TE} {k a : SE} {tip : TIp} {g : D → D → Option D} (hg : OpD K tip g) (hk : ImpE K u k) (h : ImpE K t a) : ImpS K (tAugS (tVar i) u t (rIxL K) tip rSetL) (sAugI g i k a) := fun ad B σ H ρ c r D R e q => by
  unfold sAugI at e
  split at e
  · rename_i xs e0
    obtain ⟨⟨kd, c1⟩, e1, e2⟩ := Option.bind_eq_some_iff.mp e
    cases kd with
    | int j =>
      obtain ⟨m, e3, e4⟩ := Option.bind_eq_some_iff.mp e2
      obtain ⟨x0, e5, e6⟩ := Option.bind_eq_some_iff.mp e4
      obtain ⟨⟨d, c2⟩, e7, e8⟩ := Option.bind_eq_some_iff.mp e6
      obtain ⟨z, e9, e10⟩ := Option.bind_eq_some_iff.mp e8
      cases e10
      obtain ⟨p, vs, g1, g2, g3, g4, g5⟩ := R.slot i _ e0
      refine ⟨.ref p, g1, hk ad B σ H ρ c (.int j) c1 _ R e1 fun w B1 H1 x dw => ?_⟩
      have R1 := R.fw x
      have hp1 : H1 p = some (.lst vs) := x.keep p _ g4 g2
      have g51 := dpAll_mono x.bb _ _ g5
      obtain ⟨v0, a1, a2⟩ := dpAll_at (i := j) g51 (by unfold atI; rw [e3]; exact e5)
      refine ⟨p, vs, j, v0, rfl, dp_int dw, SqL.of hp1, a1, ?_⟩
      refine h ad B1 σ H1 ρ c1 d c2 _ R1 e7 fun v B2 H2 y dv => ?_
      have f2 : Fw ad c2 B H B2 H2 := R.trans x y
      refine hg B2 H2 v0 v x0 d z _ y.bh (dp_mono y.bb _ _ a2) dv e9 fun zv B3 H3 gz dz => ?_
      have f3 : Fw ad c2 B H B3 H3 := R.trans f2 (gz.fw y.cell)
      have R3 := R.fw f3
      have hp3 : H3 p = some (.lst vs) := f3.keep p _ g4 g2
      obtain ⟨R4, w4⟩ := R3.chOl e0 rfl g1 (dpAll_set dz m (dpAll_mono f3.bb _ _ g5))
      refine ⟨p, vs, j, m, rfl, dp_int dw, hp3, by rw [dpAll_len g5]; exact e3, ?_⟩
      exact q B3 σ _ R4 (FwS.trans R R3 (FwS.ofFw R f3) w4)
    | _ => cases e2
  · cases e
/-- x[k] of a list of one's own -/
def sIxO (i : Nat) (k : SE) : SE := fun ρ c => match ρ[i]? with
  | some (.ol xs) => (k ρ c).bind fun q => match q.1 with
    | .int j => (atI xs j).bind fun x0 => some (x0, q.2)
    | _ => none
  | _ => none
theorem imp_ixO {i : Nat} {u : TE} {k : SE} (hk : ImpE K u k) : ImpE K (tOp (rIx K) (tVar i) u) (sIxO i k) := fun ad B σ H ρ c d c' Q R e q => by
  unfold sIxO at e
  split at e
  · rename_i xs e0
    obtain ⟨⟨kd, c1⟩, e1, e2⟩ := Option.bind_eq_some_iff.mp e
    cases kd with
    | int j =>
      obtain ⟨x0, e3, e4⟩ := Option.bind_eq_some_iff.mp e2
      cases e4
      obtain ⟨p, vs, g1, g2, g3, g4, g5⟩ := R.slot i _ e0
      refine ⟨.ref p, g1, hk ad B σ H ρ c (.int j) _ _ R e1 fun w B1 H1 x dw => ?_⟩
      have hp1 : H1 p = some (.lst vs) := x.keep p _ g4 g2
      obtain ⟨v0, a1, a2⟩ := dpAll_at (i := j) (dpAll_mono x.bb _ _ g5) e3
      exact .inl ⟨p, vs, j, v0, rfl, dp_int dw, SqL.of hp1, a1, q v0 B1 H1 x a2⟩
    | _ => cases e2
  · cases e
/-- an answer that is a scalar, reckoned as if the list at i were plain data -/
def sFl (i : Nat) (f : SE) : SE := fun ρ c => match ρ[i]? with
  | some (.ol xs) => (f (ρ.set i (.im (.list xs))) c).bind fun p => if flatD p.1 = true then some p else none
  | _ => none
def sFlT (i : Nat) (f : SB) : SB := fun ρ c => match ρ[i]? with
  | some (.ol xs) => f (ρ.set i (.im (.list xs))) c
  | _ => none
theorem Fw.cut {ad : Option Addr} {c' : Dr} {B H B' H' : Hp} {a : Addr} {vs : List V} (n : B a = none) (hH : H a = some (.lst vs)) (x : Fw ad c' (upd B a (.lst vs)) H B' H') : Fw ad c' B H (fun b => if b = a then none else B' b) H' where
  bb := fun b o q => by
    have hb : b ≠ a := fun z => by subst z; rw [n] at q; cases q
    show (if b = a then none else B' b) = some o
    rw [if_neg hb]
    exact x.bb b o (by rw [upd_ne hb]; exact q)
  bh := fun b o q => by
    have q' : (if b = a then none else B' b) = some o := q
    by_cases hb : b = a
    · rw [if_pos hb] at q'; cases q'
    · rw [if_neg hb] at q'; exact x.bh b o q'
  keep := x.keep
  cell := x.cell
  fresh := fun b o q m => by
    have q' : (if b = a then none else B' b) = some o := q
    by_cases hb : b = a
    · rw [if_pos hb] at q'; cases q'
    · rw [if_neg hb] at q'
      exact x.fresh b o q' (by rw [upd_ne hb]; exact m)
theorem imp_fl {t : TE} {f : SE} (i : Nat) (h : ImpE K t f) : ImpE K t (sFl i f) := fun ad B σ H ρ c d c' Q R e q => by
  unfold sFl at e
  split at e
  · rename_i ds e0
    obtain ⟨⟨d1, c1⟩, e1, e2⟩ := Option.bind_eq_some_iff.mp e
    split at e2
    · rename_i hf
      cases e2
      obtain ⟨B', R', x, a, vs, k1, k2, k3, k4, k5⟩ := R.frz e0
      subst k3
      refine h ad _ σ H _ c d c' Q R' e1 fun v B2 H2 y dv => ?_
      exact q v _ H2 (y.cut k2 k4) (dp_flat hf dv)
    · cases e2
  · cases e
theorem imp_flT {t : TT} {f : SB} (i : Nat) (h : ImpT K t f) : ImpT K t (sFlT i f) := fun ad B σ H ρ c d c' Q R e q => by
  unfold sFlT at e
  split at e
  · rename_i ds e0
    obtain ⟨B', R', x, a, vs, k1, k2, k3, k4, k5⟩ := R.frz e0
    subst k3
    exact h ad _ σ H _ c d c' Q R' e fun B2 H2 y => q _ H2 (y.cut k2 k4)
  · cases e

/-! ### what is walked -/
def Walk (K : PySem.W.Frag) (J : It) (B : Hp) (xs : List D) : Prop := ∀ (B2 H2 : Hp), Same B B2 → Same B2 H2 → J.stop xs.length H2 ∧ ∀ i d, xs[i]? = some d → J.go i H2 ∧ ∀ x H3, J.yld i H2 x H3 → ∃ B3, Grow B2 H2 B3 H3 ∧ Dp K B3 x d
theorem Walk.mono {J : It} {B B' : Hp} {xs : List D} (h : Walk K J B xs) (e : Same B B') : Walk K J B' xs := fun B2 H2 a b => h B2 H2 (e.trans a) b
abbrev SI := Rho → Dr → Option (List D × Dr)
def ImpI (K : PySem.W.Frag) (wi : TI) (f : SI) : Prop := ∀ (ad : Option Addr) (B : Hp) (σ : L2.St) (H : Hp) (ρ : Rho) (c : Dr) (xs : List D) (c' : Dr) (R : It → Hp → Prop), Rl K ad B σ H ρ c → f ρ c = some (xs, c') →
  (∀ J B' H', Fw ad c' B H B' H' → Walk K J B' xs → R J H') → wi σ H R
def sItL (a : SE) : SI := fun ρ c => (a ρ c).bind fun p => match p.1 with
  | .list xs => some (xs, p.2)
  | _ => none
def sItT (a : SE) : SI := fun ρ c => (a ρ c).bind fun p => match p.1 with
  | .tuple xs => some (xs, p.2)
  | _ => none
theorem imp_iL {t : TE} {a : SE} (h : ImpE K t a) : ImpI K (iList K t) (sItL a) := fun ad B σ H ρ c xs c' Q R e q => by
  obtain ⟨⟨d, c1⟩, e1, e2⟩ := Option.bind_eq_some_iff.mp e
  refine h ad B σ H ρ c d c1 _ R e1 fun v B' H' x dv => ?_
  cases d with
  | list ds =>
    cases e2
    obtain ⟨a, vs, rfl, s1, s2⟩ := dp_list dv
    refine ⟨a, rfl, ⟨vs, SqL.of (x.bh _ _ s1)⟩, q _ B' H' x fun B2 H2 m1 m2 => ⟨⟨vs, SqL.of (m2 _ _ (m1 _ _ s1)), Nat.le_of_eq (dpAll_len s2)⟩, fun i d hd => ?_⟩⟩
    obtain ⟨v, g1, g2⟩ := dpAll_get s2 hd
    refine ⟨⟨vs, v, SqL.of (m2 _ _ (m1 _ _ s1)), g1⟩, fun y H3 hy => ?_⟩
    obtain ⟨rfl, hy⟩ := hy
    have e3 := (hy vs (SqL.of (m2 _ _ (m1 _ _ s1)))).symm.trans g1
    cases e3
    exact ⟨B2, Grow.refl m2, dp_mono m1 _ _ g2⟩
  | _ => cases e2
theorem imp_iT {t : TE} {a : SE} (h : ImpE K t a) : ImpI K (iTup K t) (sItT a) := fun ad B σ H ρ c xs c' Q R e q => by
  obtain ⟨⟨d, c1⟩, e1, e2⟩ := Option.bind_eq_some_iff.mp e
  refine h ad B σ H ρ c d c1 _ R e1 fun v B' H' x dv => ?_
  cases d with
  | tuple ds =>
    cases e2
    obtain ⟨a, vs, rfl, s1, s2⟩ := dp_tuple dv
    refine ⟨a, rfl, ⟨vs, SqT.of (x.bh _ _ s1)⟩, q _ B' H' x fun B2 H2 m1 m2 => ⟨⟨vs, SqT.of (m2 _ _ (m1 _ _ s1)), Nat.le_of_eq (dpAll_len s2)⟩, fun i d hd => ?_⟩⟩
    obtain ⟨v, g1, g2⟩ := dpAll_get s2 hd
    refine ⟨⟨vs, v, SqT.of (m2 _ _ (m1 _ _ s1)), g1⟩, fun y H3 hy => ?_⟩
    obtain ⟨rfl, hy⟩ := hy
    have e3 := (hy vs (SqT.of (m2 _ _ (m1 _ _ s1)))).symm.trans g1
    cases e3
    exact ⟨B2, Grow.refl m2, dp_mono m1 _ _ g2⟩
  | _ => cases e2
/-- lo, lo + 1, .. -/
def rngL (lo : Int) (n : Nat) : List D := (List.range n).map fun i => .int (lo + (i : Nat))
theorem rngL_get {lo : Int} {n i : Nat} {d : D} (h : (rngL lo n)[i]? = some d) : i < n ∧ d = .int (lo + i) := by
  unfold rngL at h
  rw [List.getElem?_map] at h
  obtain ⟨k, e1, e2⟩ := Option.map_eq_some_iff.mp h
  obtain ⟨e3, e4⟩ := List.getElem?_eq_some_iff.mp e1
  rw [List.length_range] at e3
  rw [List.getElem_range] at e4
  subst e4
  exact ⟨e3, e2.symm⟩
theorem rngL_len (lo : Int) (n : Nat) : (rngL lo n).length = n := by unfold rngL; rw [List.length_map, List.length_range]
theorem walk_rng (B : Hp) (lo : Int) (n : Nat) : Walk K (Itr lo n) B (rngL lo n) := fun B2 H2 m1 m2 => ⟨Nat.le_of_eq (rngL_len lo n).symm, fun i d hd => by
  obtain ⟨h1, rfl⟩ := rngL_get hd
  refine ⟨h1, fun y H3 hy => ?_⟩
  obtain ⟨rfl, rfl⟩ := hy
  exact ⟨B2, Grow.refl m2, .int _⟩⟩
def okR (i : Int) : Bool := decide (i.natAbs ≤ 1000000)
theorem okR_to {i : Int} (h : okR i = true) : -(2 ^ 62) ≤ i ∧ i < 2 ^ 62 := by
  have := of_decide_eq_true h
  constructor <;> omega
theorem imp_iR1 {t : TA} {a : SA} (h : ImpA K t a) : ImpI K (iRng1 t) (fun ρ c => (a ρ c).bind fun p => match p.1 with
  | [.int j] => if okR j = true then some (rngL 0 j.toNat, p.2) else none
  | _ => none) := fun ad B σ H ρ c xs c' Q R e q => by
  obtain ⟨⟨ds, c1⟩, e1, e2⟩ := Option.bind_eq_some_iff.mp e
  refine h ad B σ H ρ c ds c1 _ R e1 fun vs B' H' x dv => ?_
  split at e2
  · rename_i p j e3
    have e3' : ds = [.int j] := e3
    subst e3'
    split at e2
    · rename_i hj
      cases e2
      cases dv with
      | cons d1 r1 =>
        cases r1
        obtain ⟨h1, h2⟩ := okR_to hj
        exact ⟨j, by rw [dp_int d1], h1, h2, q _ B' H' x (walk_rng B' 0 _)⟩
    · cases e2
  · cases e2
def sR1 (a : SA) : SI := fun ρ c => (a ρ c).bind fun p => match p.1 with
  | [.int j] => if okR j = true then some (rngL 0 j.toNat, p.2) else none
  | _ => none
def sR2 (a : SA) : SI := fun ρ c => (a ρ c).bind fun p => match p.1 with
  | [.int i, .int j] => if okR i = true ∧ okR j = true then some (rngL i (j - i).toNat, p.2) else none
  | _ => none
theorem imp_r1 {t : TA} {a : SA} (h : ImpA K t a) : ImpI K (iRng1 t) (sR1 a) := imp_iR1 h
theorem imp_r2 {t : TA} {a : SA} (h : ImpA K t a) : ImpI K (iRng2 t) (sR2 a) := fun ad B σ H ρ c xs c' Q R e q => by
  obtain ⟨⟨ds, c1⟩, e1, e2⟩ := Option.bind_eq_some_iff.mp e
  refine h ad B σ H ρ c ds c1 _ R e1 fun vs B' H' x dv => ?_
  split at e2
  · rename_i p i j e3
    have e3' : ds = [.int i, .int j] := e3
    subst e3'
    split at e2
    · rename_i hj
      cases e2
      cases dv with
      | cons d1 r1 =>
        cases r1 with
        | cons d2 r2 =>
          cases r2
          obtain ⟨h1, h2⟩ := okR_to hj.1
          obtain ⟨h3, h4⟩ := okR_to hj.2
          exact ⟨i, j, by rw [dp_int d1, dp_int d2], ⟨h1, h2, h3, h4⟩, q _ B' H' x (walk_rng B' i _)⟩
    · cases e2
  · cases e2

/-! ### for -/
def forS (g : D → Rho → Option Rho) (body : SS) : List D → SS
  | [] => fun ρ c => some (.nx, ρ, c)
  | x :: xs => fun ρ c => (g x ρ).bind fun ρ1 => (body ρ1 c).bind fun r => match r with
    | (.nx, ρ2, c2) => forS g body xs ρ2 c2
    | (.ct, ρ2, c2) => forS g body xs ρ2 c2
    | (.bk, ρ2, c2) => some (.nx, ρ2, c2)
    | (.rt d, ρ2, c2) => some (.rt d, ρ2, c2)
def sFor (f : SI) (g : D → Rho → Option Rho) (body : SS) : SS := fun ρ c => (f ρ c).bind fun p => forS g body p.1 ρ p.2
/-- the loop, by what its iterator does at each turn -/
theorem for_core {J : It} {tg : TG} {tb : TS} {g : D → Rho → Option Rho} {body : SS} (hg : ImpG K tg g) (hb : ImpS K tb body) {ad : Option Addr} {B1 : Hp} {σ : L2.St} {H1 : Hp} {ρ : Rho} {c1 : Dr} {xs : List D} {r : Fl × Rho × Dr} {D : Ends} (R1 : Rl K ad B1 σ H1 ρ c1)
    (wk : ∀ (B' : Hp) (σ' : L2.St) (H' : Hp) (ρ' : Rho), FwS ad B1 σ H1 ρ B' σ' H' ρ' → Same B' H' → J.stop xs.length H' ∧ ∀ (i : Nat) (d : PyData), xs[i]? = some d → J.go i H' ∧ ∀ x H3, J.yld i H' x H3 → ∃ B3, Grow B' H' B3 H3 ∧ Dp K B3 x d)
    (e2 : forS g body xs ρ c1 = some r) (q1 : Post K D ad B1 σ H1 ρ r) : ∃ W : Nat → Nat → L2.St → Hp → Prop, (∃ m, W 0 m σ H1) ∧ ∀ i m σ H, W i m σ H →
  (J.stop i H ∧ D.nx σ H) ∨ (J.go i H ∧ ∃ N : L2.St → Hp → Prop, (∀ σ' H', N σ' H' → ∃ m', m' < m ∧ W (i + 1) m' σ' H') ∧ ∀ x H', J.yld i H x H' → tg x σ H' fun σ2 H2 => tb { D with nx := N, ct := N, bk := D.nx } σ2 H2) := by
  refine ⟨fun i m σ' H' => m = xs.length - i ∧ i ≤ xs.length ∧ ∃ B' ρ' c', Rl K ad B' σ' H' ρ' c' ∧ FwS ad B1 σ H1 ρ B' σ' H' ρ' ∧ forS g body (xs.drop i) ρ' c' = some r,
    ⟨xs.length, by rw [Nat.sub_zero], Nat.zero_le _, B1, ρ, c1, R1, FwS.refl R1, by rw [List.drop_zero]; exact e2⟩, fun i m σ' H' hW => ?_⟩
  obtain ⟨rfl, hi, B', ρ', c', R', y, e'⟩ := hW
  obtain ⟨w1, w2⟩ := wk B' σ' H' ρ' y R'.sub
  by_cases hlt : i < xs.length
  · have hx : xs[i]? = some xs[i] := List.getElem?_eq_getElem hlt
    obtain ⟨go, yl⟩ := w2 i _ hx
    rw [List.drop_eq_getElem_cons hlt] at e'
    obtain ⟨ρ2, e3, e4⟩ := Option.bind_eq_some_iff.mp e'
    obtain ⟨r3, e5, e6⟩ := Option.bind_eq_some_iff.mp e4
    refine .inr ⟨go, fun σ2 H2 => xs.length - (i + 1) = xs.length - (i + 1) ∧ i + 1 ≤ xs.length ∧ ∃ B2 ρ2 c2, Rl K ad B2 σ2 H2 ρ2 c2 ∧ FwS ad B1 σ H1 ρ B2 σ2 H2 ρ2 ∧ forS g body (xs.drop (i + 1)) ρ2 c2 = some r, fun σ2 H2 h2 => ⟨xs.length - (i + 1), by omega, h2⟩, fun v H3 hv => ?_⟩
    obtain ⟨B3, gr, dv⟩ := yl v H3 hv
    have x3 : Fw ad c' B' H' B3 H3 := gr.fw R'.cell
    have R3 := R'.fw x3
    refine hg ad B3 σ' H3 ρ' c' v _ ρ2 _ R3 dv e3 fun σ4 R4 y4 => ?_
    have y04 : FwS ad B1 σ H1 ρ B3 σ4 H3 ρ2 := FwS.trans R1 R3 (FwS.trans R1 R' y (FwS.ofFw R' x3)) y4
    refine hb ad B3 σ4 H3 ρ2 c' r3 _ R4 e5 ?_
    obtain ⟨f3, ρ5, c5⟩ := r3
    cases f3 with
    | nx => exact fun B5 σ5 H5 R5 y5 => ⟨rfl, hlt, B5, ρ5, c5, R5, FwS.trans R1 R4 y04 y5, e6⟩
    | ct => exact fun B5 σ5 H5 R5 y5 => ⟨rfl, hlt, B5, ρ5, c5, R5, FwS.trans R1 R4 y04 y5, e6⟩
    | bk =>
      cases e6
      exact fun B5 σ5 H5 R5 y5 => q1 B5 σ5 H5 R5 (FwS.trans R1 R4 y04 y5)
    | rt d =>
      cases e6
      exact fun w B5 σ5 H5 R5 y5 dw => q1 w B5 σ5 H5 R5 (FwS.trans R1 R4 y04 y5) dw
  · have ei : i = xs.length := by omega
    subst ei
    rw [List.drop_length] at e'
    cases e'
    exact .inl ⟨w1, q1 B' σ' H' R' y⟩
theorem imp_for {wi : TI} {tg : TG} {tb : TS} {f : SI} {g : D → Rho → Option Rho} {body : SS} (hf : ImpI K wi f) (hg : ImpG K tg g) (hb : ImpS K tb body) : ImpS K (tFor wi tg tb) (sFor f g body) := fun ad B σ H ρ c r D R e q => by
  obtain ⟨⟨xs, c1⟩, e1, e2⟩ := Option.bind_eq_some_iff.mp e
  refine hf ad B σ H ρ c xs c1 _ R e1 fun J B1 H1 x wk => ?_
  have R1 := R.fw x
  exact for_core hg hb R1 (fun B' σ' H' ρ' y s => wk B' H' y.bb s) e2 (Post.trans R R1 (FwS.ofFw R x) q)
/-! ### while, with fuel -/
def whileS (t : SB) (body : SS) : Nat → SS
  | 0 => fun _ _ => none
  | n + 1 => fun ρ c => (t ρ c).bind fun p => if p.1 = true then (body ρ p.2).bind fun r => match r with
    | (.nx, ρ2, c2) => whileS t body n ρ2 c2
    | (.ct, ρ2, c2) => whileS t body n ρ2 c2
    | (.bk, ρ2, c2) => some (.nx, ρ2, c2)
    | (.rt d, ρ2, c2) => some (.rt d, ρ2, c2)
    else some (.nx, ρ, p.2)
theorem imp_while {tt : TT} {tb : TS} {t : SB} {body : SS} (n : Nat) (ht : ImpT K tt t) (hb : ImpS K tb body) : ImpS K (tWhile tt tb) (whileS t body n) := fun ad B σ H ρ c r D R e q => by
  refine ⟨fun m σ' H' => ∃ B' ρ' c', Rl K ad B' σ' H' ρ' c' ∧ FwS ad B σ H ρ B' σ' H' ρ' ∧ whileS t body m ρ' c' = some r, ⟨n, B, ρ, c, R, FwS.refl R, e⟩, fun m σ' H' hW => ?_⟩
  obtain ⟨B', ρ', c', R', y, e'⟩ := hW
  cases m with
  | zero => cases e'
  | succ m =>
    obtain ⟨⟨b, c1⟩, e1, e2⟩ := Option.bind_eq_some_iff.mp e'
    refine ht ad B' σ' H' ρ' c' b c1 _ R' e1 fun B1 H1 x => ?_
    have R1 := R'.fw x
    have y1 := FwS.trans R R' y (FwS.ofFw R' x)
    cases b with
    | true =>
      obtain ⟨r3, e5, e6⟩ := Option.bind_eq_some_iff.mp e2
      rw [if_pos rfl]
      refine ⟨fun σ2 H2 => ∃ B' ρ' c', Rl K ad B' σ2 H2 ρ' c' ∧ FwS ad B σ H ρ B' σ2 H2 ρ' ∧ whileS t body m ρ' c' = some r, fun σ2 H2 h2 => ⟨m, Nat.lt_succ_self m, h2⟩, ?_⟩
      refine hb ad B1 σ' H1 ρ' c1 r3 _ R1 e5 ?_
      obtain ⟨f3, ρ5, c5⟩ := r3
      cases f3 with
      | nx => exact fun B5 σ5 H5 R5 y5 => ⟨B5, ρ5, c5, R5, FwS.trans R R1 y1 y5, e6⟩
      | ct => exact fun B5 σ5 H5 R5 y5 => ⟨B5, ρ5, c5, R5, FwS.trans R R1 y1 y5, e6⟩
      | bk =>
        cases e6
        exact fun B5 σ5 H5 R5 y5 => q B5 σ5 H5 R5 (FwS.trans R R1 y1 y5)
      | rt d =>
        cases e6
        exact fun w B5 σ5 H5 R5 y5 dw => q w B5 σ5 H5 R5 (FwS.trans R R1 y1 y5) dw
    | false =>
      rw [if_neg Bool.false_ne_true]
      have e2' : some (Fl.nx, ρ', c1) = some r := e2
      cases e2'
      exact q B1 σ' H1 R1 y1
end
end DL
/-! DLe: comprehensions; calls; what a def promises. -/
namespace DL
open PySem PySem.Spec L2
section
variable {K : PySem.W.Frag}
/-! ### comprehensions -/
/-- a target that stores in these slots alone -/
def OnlyG (t : TG) (vs : List Nat) : Prop := ∀ v σ H Q, t v σ H Q → t v σ H fun σ' H' => Q σ' H' ∧ wipe σ' vs = wipe σ vs
def MonoG (t : TG) : Prop := ∀ v σ H Q Q', (∀ σ' H', Q σ' H' → Q' σ' H') → t v σ H Q → t v σ H Q'
def MonoGs (t : TGs) : Prop := ∀ v σ H Q Q', (∀ σ' H', Q σ' H' → Q' σ' H') → t v σ H Q → t v σ H Q'
def OnlyGs (t : TGs) (vs : List Nat) : Prop := ∀ ws σ H Q, t ws σ H Q → t ws σ H fun σ' H' => Q σ' H' ∧ wipe σ' vs = wipe σ vs
theorem wipe_set {σ : L2.St} {i : Nat} {o : Option V} : ∀ {vs : List Nat}, i ∈ vs → wipe (σ.set i o) vs = wipe σ vs
  | [], h => by cases h
  | v :: vs, h => by
    show (wipe (σ.set i o) vs).set v none = (wipe σ vs).set v none
    have comm : ∀ ws : List Nat, i ∉ ws → wipe (σ.set i o) ws = (wipe σ ws).set i o := by
      intro ws
      induction ws with
      | nil => intro _; rfl
      | cons u us ih =>
        intro hn
        show (wipe (σ.set i o) us).set u none = ((wipe σ us).set u none).set i o
        rw [ih (fun z => hn (List.mem_cons_of_mem _ z)), List.set_comm _ _ (fun z => hn (by rw [z]; exact List.mem_cons_self))]
    by_cases hm : i ∈ vs
    · rw [wipe_set hm]
    · have hi : i = v := by
        rcases List.mem_cons.mp h with z | z
        · exact z
        · exact absurd z hm
      rw [comm vs hm, hi, List.set_set]
theorem only_N {i : Nat} {vs : List Nat} (h : i ∈ vs) : OnlyG (gName i) vs := fun v σ H Q q => ⟨q, wipe_set h⟩
theorem only_nil {vs : List Nat} : OnlyGs gNil vs := fun ws σ H Q q => ⟨q.1, q.2, rfl⟩
theorem only_cons {t : TG} {u : TGs} {vs : List Nat} (h1 : OnlyG t vs) (h2 : OnlyGs u vs) (mono : MonoG t) (mono2 : MonoGs u) : OnlyGs (gCons t u) vs := fun ws σ H Q q => by
  obtain ⟨v, r, e, q⟩ := q
  refine ⟨v, r, e, ?_⟩
  refine mono v σ H _ _ (fun σ' H' z => ?_) (h1 v σ H _ q)
  exact mono2 r σ' H' _ _ (fun σ2 H2 y => ⟨y.1, y.2.trans z.2⟩) (h2 r σ' H' Q z.1)
theorem mono_N {i : Nat} : MonoG (gName i) := fun v σ H Q Q' h q => h _ _ q
theorem mono_nil : MonoGs gNil := fun v σ H Q Q' h q => ⟨q.1, h _ _ q.2⟩
theorem mono_cons {t : TG} {u : TGs} (m1 : MonoG t) (m2 : MonoGs u) : MonoGs (gCons t u) := fun v σ H Q Q' h q => by
  obtain ⟨x, r, e, q⟩ := q
  exact ⟨x, r, e, m1 _ _ _ _ _ (fun σ' H' z => m2 _ _ _ _ _ h z) q⟩
theorem mono_tup {n : Nat} {u : TGs} (m2 : MonoGs u) : MonoG (gTup K n u) := fun v σ H Q Q' h q => by
  obtain ⟨a, xs, e, e2, e3, q⟩ := q
  exact ⟨a, xs, e, e2, e3, m2 _ _ _ _ _ h q⟩
theorem only_tup {n : Nat} {u : TGs} {vs : List Nat} (h : OnlyGs u vs) : OnlyG (gTup K n u) vs := fun v σ H Q q => by
  obtain ⟨a, xs, e, e2, e3, q⟩ := q
  exact ⟨a, xs, e, e2, e3, h xs σ H Q q⟩
/-- slots forgotten, as a comprehension does -/
def wipeR (ρ : Rho) : List Nat → Rho
  | [] => ρ
  | v :: vs => (wipeR ρ vs).set v .un
theorem Rl.setUn {ad : Option Addr} {B H : Hp} {σ : L2.St} {ρ : Rho} {c : Dr} (r : Rl K ad B σ H ρ c) (i : Nat) (o : Option V) : Rl K ad B (σ.set i o) H (ρ.set i .un) c := by
  have p : ∀ {j : Nat} {s : Sl}, (ρ.set i .un)[j]? = some s → s = .un ∨ (ρ[j]? = some s ∧ (σ.set i o)[j]? = σ[j]?) := fun {j s} e => by
    by_cases hj : j = i
    · subst hj
      have hl : j < ρ.length := by
        have := (List.getElem?_eq_some_iff.mp e).1
        rwa [List.length_set] at this
      rw [List.getElem?_set_self hl] at e
      cases e; exact .inl rfl
    · rw [List.getElem?_set_ne (Ne.symm hj)] at e
      exact .inr ⟨e, List.getElem?_set_ne (Ne.symm hj)⟩
  refine ⟨r.sub, r.cell, r.cfree, by rw [List.length_set, List.length_set]; exact r.len, fun j s e => ?_, fun j k s t a hjk e1 e2 o1 o2 g => ?_⟩
  · rcases p e with z | ⟨z, z2⟩
    · subst z; trivial
    · rw [z2]; exact r.slot j s z
  · rcases p e1 with z | ⟨z, z2⟩
    · subst z; cases o1
    · rcases p e2 with z' | ⟨z', z2'⟩
      · subst z'; cases o2
      · rw [z2] at g
        rw [z2']
        exact r.sep j k s t a hjk z z' o1 o2 g
theorem Rl.wiped {ad : Option Addr} {B H : Hp} {σ : L2.St} {ρ : Rho} {c : Dr} (r : Rl K ad B σ H ρ c) : ∀ vs : List Nat, Rl K ad B (wipe σ vs) H (wipeR ρ vs) c
  | [] => r
  | v :: vs => (r.wiped vs).setUn v none
def lcS (g : D → Rho → Option Rho) (t : SB) (e : SE) (ρ0 : Rho) : List D → Dr → Option (List D × Dr)
  | [], c => some ([], c)
  | x :: xs, c => (g x ρ0).bind fun ρ1 => (t ρ1 c).bind fun p => if p.1 = true then (e ρ1 p.2).bind fun q => (lcS g t e ρ0 xs q.2).bind fun r => some (q.1 :: r.1, r.2) else lcS g t e ρ0 xs p.2
def sLc (f : SI) (g : D → Rho → Option Rho) (t : SB) (e : SE) (vs : List Nat) : SL := fun ρ c => (f ρ c).bind fun p => if few p.1.length = true then lcS g t e (wipeR ρ vs) p.1 p.2 else none
def sYes : SB := fun _ c => some (true, c)
theorem imp_yes : ImpT K tYes sYes := fun ad B σ H ρ c b c' Q R e q => by
  cases e
  exact q B H R.fwRefl
def delH (H : Hp) (a : Addr) : Hp := fun b => if b = a then none else H b
theorem delH_self {H : Hp} {a : Addr} : delH H a a = none := if_pos rfl
theorem delH_ne {H : Hp} {a b : Addr} (h : b ≠ a) : delH H a b = H b := if_neg h
theorem upd_delH {H : Hp} {a : Addr} {o : HO} (h : H a = some o) : upd (delH H a) a o = H := by
  funext b
  by_cases e : b = a
  · subst e; rw [upd_same, h]
  · rw [upd_ne e, delH_ne e]
theorem delH_upd {H : Hp} {a : Addr} {o : HO} (h : H a = none) : delH (upd H a o) a = H := by
  funext b
  by_cases e : b = a
  · subst e; rw [delH_self, h]
  · rw [delH_ne e, upd_ne e]
theorem same_delH {H : Hp} {a : Addr} : Same (delH H a) H := fun b o q => by
  by_cases e : b = a
  · subst e; rw [delH_self] at q; cases q
  · rw [delH_ne e] at q; exact q
theorem Rl.up {ad : Option Addr} {B H H' : Hp} {σ : L2.St} {ρ : Rho} {c : Dr} (r : Rl K ad B σ H ρ c) (s : Same H H') : Rl K ad B σ H' ρ c := by
  refine ⟨r.sub.trans s, fun a e => s a _ (r.cell a e), r.cfree, r.len, fun i t e => ?_, r.sep⟩
  have q := r.slot i t e
  cases t with
  | un => trivial
  | im d => exact q
  | ol xs => obtain ⟨a, vs, e1, e2, e3⟩ := q; exact ⟨a, vs, e1, s a _ e2, e3⟩
  | od xs => obtain ⟨a, vs, e1, e2, e3⟩ := q; exact ⟨a, vs, e1, s a _ e2, e3⟩
  | fd xs => obtain ⟨a, w, vs, e1, e2, e3⟩ := q; exact ⟨a, w, vs, e1, s a _ e2, e3⟩
  | op v => exact q
  | dr => exact q
theorem Fw.del {ad : Option Addr} {c' : Dr} {B H B' H' : Hp} {a : Addr} {o : HO} (x : Fw ad c' B H B' H') (n : B a = none) (h : H a = some o) (na : ad ≠ some a) : Fw ad c' B (delH H a) B' (delH H' a) where
  bb := x.bb
  bh := fun b u q => by
    have hb : b ≠ a := fun z => by
      subst z
      have := x.fresh b u q n
      rw [h] at this; cases this
    rw [delH_ne hb]; exact x.bh b u q
  keep := fun b u m q => by
    have hb : b ≠ a := fun z => by subst z; rw [delH_self] at q; cases q
    rw [delH_ne hb] at q ⊢; exact x.keep b u m q
  cell := fun b e => by
    have hb : b ≠ a := fun z => by subst z; exact na e
    rw [delH_ne hb]; exact x.cell b e
  fresh := fun b u q m => by
    have hb : b ≠ a := fun z => by
      subst z
      have := x.fresh b u q n
      rw [h] at this; cases this
    rw [delH_ne hb]; exact x.fresh b u q m
theorem imp_lc {wi : TI} {tg : TG} {tt : TT} {te : TE} {f : SI} {g : D → Rho → Option Rho} {t : SB} {e : SE} {vs : List Nat} (hf : ImpI K wi f) (hg : ImpG K tg g) (ho : OnlyG tg vs) (mn : MonoG tg) (ht : ImpT K tt t) (he : ImpE K te e) :
    ImpL K (tLc wi tg tt te vs) (sLc f g t e vs) := fun ad B σ H ρ c ds c' Q R h q => by
  obtain ⟨⟨xs, c1⟩, e1, e2⟩ := Option.bind_eq_some_iff.mp h
  have e2 : (if few xs.length = true then lcS g t e (wipeR ρ vs) xs c1 else none) = some (ds, c') := e2
  by_cases hz : few xs.length = true
  · rw [if_pos hz] at e2
    have hz' := few_ok hz
    refine hf ad B σ H ρ c xs c1 _ R e1 fun J B1 H1 x wk => ?_
    intro Dl hD
    have R1 := R.fw x
    have nB1 : B1 Dl = none := R1.sub.free hD
    have nad : ad ≠ some Dl := fun z => by rw [R1.cell Dl z] at hD; cases hD
    refine ⟨fun i m H' => m = xs.length - i ∧ i ≤ xs.length ∧ ∃ (B' : Hp) (cc : Dr) (acc : List V) (done rest : List D), H' Dl = some (.lst acc) ∧ DpAll K B' acc done ∧ acc.length ≤ i ∧ Fw ad cc B1 H1 B' (delH H' Dl) ∧ lcS g t e (wipeR ρ vs) (xs.drop i) cc = some (rest, c') ∧ ds = done ++ rest,
      ⟨xs.length, by rw [Nat.sub_zero], Nat.zero_le _, B1, c1, [], [], ds, upd_same, .nil, Nat.zero_le _, by rw [delH_upd hD]; exact R1.fwRefl, by rw [List.drop_zero]; exact e2, rfl⟩, fun i m H' hW => ?_⟩
    obtain ⟨rfl, hi, B', cc, acc, done, rest, hDl, dacc, hacc, y, e', ed⟩ := hW
    have nB' : B' Dl = none := by
      cases z : B' Dl with
      | none => rfl
      | some u =>
        have := y.bh Dl u z
        rw [delH_self] at this; cases this
    have sB' : Same B' H' := y.bh.trans same_delH
    obtain ⟨w1, w2⟩ := wk B' H' y.bb sB'
    by_cases hlt : i < xs.length
    · obtain ⟨go, yl⟩ := w2 i _ (List.getElem?_eq_getElem hlt)
      rw [List.drop_eq_getElem_cons hlt] at e'
      obtain ⟨ρ2, e3, e4⟩ := Option.bind_eq_some_iff.mp e'
      obtain ⟨⟨b, c3⟩, e5, e6⟩ := Option.bind_eq_some_iff.mp e4
      refine .inr ⟨go, fun H2 => xs.length - (i + 1) = xs.length - (i + 1) ∧ i + 1 ≤ xs.length ∧ ∃ (B' : Hp) (cc : Dr) (acc : List V) (done rest : List D), H2 Dl = some (.lst acc) ∧ DpAll K B' acc done ∧ acc.length ≤ i + 1 ∧ Fw ad cc B1 H1 B' (delH H2 Dl) ∧ lcS g t e (wipeR ρ vs) (xs.drop (i + 1)) cc = some (rest, c') ∧ ds = done ++ rest, fun H2 h2 => ⟨xs.length - (i + 1), by omega, h2⟩, fun v H3 hv => ?_⟩
      obtain ⟨B3, gr, dv⟩ := yl v H3 hv
      have hDl3 : H3 Dl = some (.lst acc) := gr.hh Dl _ hDl
      have cell' : ∀ a, ad = some a → H' a = some (.lst [.int cc.1, .int cc.2]) := fun a z => same_delH a _ (y.cell a z)
      have x3 : Fw ad cc B' H' B3 H3 := gr.fw cell'
      have R' : Rl K ad B' (wipe σ vs) H' (wipeR ρ vs) cc := ((R1.fw y).up same_delH).wiped vs
      have R3 := R'.fw x3
      have y3 : Fw ad cc B1 H1 B3 (delH H3 Dl) := R1.trans y (x3.del nB' hDl nad)
      have on := ho v (wipe σ vs) H3 _ (hg ad B3 (wipe σ vs) H3 (wipeR ρ vs) cc v _ ρ2 (fun σ4 H4 => H4 = H3 ∧ Rl K ad B3 σ4 H3 ρ2 cc) R3 dv e3 fun σ4 R4 _ => ⟨rfl, R4⟩)
      have wmono : ∀ σ4 H4, ((H4 = H3 ∧ Rl K ad B3 σ4 H3 ρ2 cc) ∧ wipe σ4 vs = wipe (wipe σ vs) vs) → (wipe σ4 vs = wipe σ vs ∧ tt σ4 H4 fun b H5 => if b = true then te σ4 H5 fun y H6 => ∃ acc', H6 Dl = some (.lst acc') ∧ acc'.length < sizeLine ∧
          (xs.length - (i + 1) = xs.length - (i + 1) ∧ i + 1 ≤ xs.length ∧ ∃ (B' : Hp) (cc : Dr) (acc : List V) (done rest : List D), upd H6 Dl (.lst (acc' ++ [y])) Dl = some (.lst acc) ∧ DpAll K B' acc done ∧ acc.length ≤ i + 1 ∧ Fw ad cc B1 H1 B' (delH (upd H6 Dl (.lst (acc' ++ [y]))) Dl) ∧ lcS g t e (wipeR ρ vs) (xs.drop (i + 1)) cc = some (rest, c') ∧ ds = done ++ rest)
          else (xs.length - (i + 1) = xs.length - (i + 1) ∧ i + 1 ≤ xs.length ∧ ∃ (B' : Hp) (cc : Dr) (acc : List V) (done rest : List D), H5 Dl = some (.lst acc) ∧ DpAll K B' acc done ∧ acc.length ≤ i + 1 ∧ Fw ad cc B1 H1 B' (delH H5 Dl) ∧ lcS g t e (wipeR ρ vs) (xs.drop (i + 1)) cc = some (rest, c') ∧ ds = done ++ rest)) := by
        rintro σ4 H4 ⟨⟨rfl, R4⟩, ew⟩
        have idem : wipe (wipe σ vs) vs = wipe σ vs := by
          have key : ∀ (us : List Nat) (τ : L2.St), (∀ u ∈ us, u ∈ vs) → wipe (wipe σ vs) us = wipe σ vs := by
            intro us
            induction us with
            | nil => intro τ _; rfl
            | cons u us ih =>
              intro τ hs
              show (wipe (wipe σ vs) us).set u none = wipe σ vs
              rw [ih τ fun w hw => hs w (List.mem_cons_of_mem _ hw)]
              have hu : u ∈ vs := hs u List.mem_cons_self
              have : ∀ ws : List Nat, u ∈ ws → (wipe σ ws).set u none = wipe σ ws := by
                intro ws
                induction ws with
                | nil => intro h; cases h
                | cons w ws ih2 =>
                  intro h
                  show ((wipe σ ws).set w none).set u none = (wipe σ ws).set w none
                  by_cases e : u = w
                  · subst e; rw [List.set_set]
                  · have hm : u ∈ ws := by
                      rcases List.mem_cons.mp h with z | z
                      · exact absurd z e
                      · exact z
                    rw [List.set_comm _ _ (Ne.symm e), ih2 hm]
              exact this vs hu
          exact key vs σ fun u h => h
        refine ⟨ew.trans idem, ?_⟩
        refine ht ad B3 σ4 H4 ρ2 cc b c3 _ R4 e5 fun B5 H5 x5 => ?_
        have nB3 : B3 Dl = none := by
          cases z : B3 Dl with
          | none => rfl
          | some u =>
            have := gr.fresh Dl u z nB'
            rw [hDl] at this; cases this
        have R5 := R4.fw x5
        have hDl5 : H5 Dl = some (.lst acc) := x5.keep Dl _ nad hDl3
        have y5 : Fw ad c3 B1 H1 B5 (delH H5 Dl) := R1.trans y3 (x5.del nB3 hDl3 nad)
        have nB5 : B5 Dl = none := by
          cases z : B5 Dl with
          | none => rfl
          | some u =>
            have := x5.fresh Dl u z nB3
            rw [hDl3] at this; cases this
        cases b with
        | true =>
          have e6' : ((e ρ2 c3).bind fun q => (lcS g t e (wipeR ρ vs) (xs.drop (i + 1)) q.2).bind fun r => some (q.1 :: r.1, r.2)) = some (rest, c') := e6
          rw [if_pos rfl]
          obtain ⟨⟨d7, c7⟩, e7, e8⟩ := Option.bind_eq_some_iff.mp e6'
          obtain ⟨⟨rest', c8⟩, e9, e10⟩ := Option.bind_eq_some_iff.mp e8
          cases e10
          refine he ad B5 σ4 H5 ρ2 c3 d7 c7 _ R5 e7 fun w B6 H6 x6 dw => ?_
          have hDl6 : H6 Dl = some (.lst acc) := x6.keep Dl _ nad hDl5
          have y6 : Fw ad c7 B1 H1 B6 (delH H6 Dl) := R1.trans y5 (x6.del nB5 hDl5 nad)
          have ex : delH (upd H6 Dl (.lst (acc ++ [w]))) Dl = delH H6 Dl := by
            funext b
            by_cases z : b = Dl
            · subst z; rw [delH_self, delH_self]
            · rw [delH_ne z, delH_ne z, upd_ne z]
          refine ⟨acc, hDl6, ?_, rfl, hlt, B6, c7, acc ++ [w], done ++ [d7], rest', upd_same, ?_, ?_, ?_, e9, ?_⟩
          · rw [sizeLine_eq]; omega
          · exact dpAll_snoc (dpAll_mono (gr.bb.trans (x5.bb.trans x6.bb)) _ _ dacc) dw
          · rw [List.length_append]
            show acc.length + 1 ≤ i + 1
            omega
          · rw [ex]; exact y6
          · rw [ed, List.append_assoc]; rfl
        | false =>
          have e6' : lcS g t e (wipeR ρ vs) (xs.drop (i + 1)) c3 = some (rest, c') := e6
          rw [if_neg Bool.false_ne_true]
          exact ⟨rfl, hlt, B5, c3, acc, done, rest, hDl5, dpAll_mono (gr.bb.trans x5.bb) _ _ dacc, by omega, y5, e6', ed⟩
      exact mn _ _ _ _ _ wmono on
    · have ei : i = xs.length := by omega
      subst ei
      rw [List.drop_length] at e'
      cases e'
      refine .inl ⟨w1, ?_⟩
      rw [List.append_nil] at ed
      subst ed
      exact q Dl acc B' H' (delH H' Dl) (R.trans x y) delH_self (upd_delH hDl).symm dacc
  · rw [if_neg hz] at e2; cases e2
end
end DL
/-! DLf: what a def promises; calls. -/
namespace DL
open PySem PySem.Spec L2

/-- a def that reckons on plain data alone -/
def spP (K : PySem.W.Frag) (F : List D → Option D) : Sp := fun vs H Q _ => ∃ (ds : List D) (B : Hp) (d : D), Same B H ∧ DpAll K B vs ds ∧ F ds = some d ∧ ∀ v B' H', Grow B H B' H' → Dp K B' v d → Q v H'
/-- .. that draws: the cell is its first argument -/
def spD (K : PySem.W.Frag) (F : List D → Dr → Option (D × Dr)) : Sp := fun vs H Q _ => ∃ (a : Addr) (vs' : List V) (ds : List D) (B : Hp) (c : Dr) (d : D) (c' : Dr), vs = .ref a :: vs' ∧ Same B H ∧ B a = none ∧ H a = some (.lst [.int c.1, .int c.2]) ∧ DpAll K B vs' ds ∧
  F ds c = some (d, c') ∧ ∀ v B' H', Fw (some a) c' B H B' H' → Dp K B' v d → Q v H'
section
variable {K : PySem.W.Frag}
def sCall (F : List D → Option D) (a : SA) : SE := fun ρ c => (a ρ c).bind fun p => (F p.1).bind fun d => some (d, p.2)
theorem imp_call {F : List D → Option D} {t : TA} {a : SA} (h : ImpA K t a) : ImpE K (tCall (spP K F) [] E0 t) (sCall F a) := fun ad B σ H ρ c d c' Q R e q => by
  obtain ⟨⟨ds, c1⟩, e1, e2⟩ := Option.bind_eq_some_iff.mp e
  obtain ⟨d', e3, e4⟩ := Option.bind_eq_some_iff.mp e2
  cases e4
  refine h ad B σ H ρ c ds _ _ R e1 fun vs B' H' x dv => ?_
  show spP K F (vs ++ []) H' Q E0
  rw [List.append_nil]
  exact ⟨ds, B', d, x.bh, dv, e3, fun v B2 H2 g dd => q v B2 H2 (R.trans x (g.fw x.cell)) dd⟩
def sCallD (F : List D → Dr → Option (D × Dr)) (i : Nat) (a : SA) : SE := fun ρ c => match ρ[i]? with
  | some .dr => (a ρ c).bind fun p => F p.1 p.2
  | _ => none
theorem imp_callD {F : List D → Dr → Option (D × Dr)} {i : Nat} {t : TA} {a : SA} (h : ImpA K t a) : ImpE K (tCall (spD K F) [] E0 (tCons (tVar i) t)) (sCallD F i a) := fun ad B σ H ρ c d c' Q R e q => by
  unfold sCallD at e
  split at e
  · rename_i e0
    obtain ⟨⟨ds, c1⟩, e1, e2⟩ := Option.bind_eq_some_iff.mp e
    obtain ⟨a0, rfl, g1⟩ := R.slot i _ e0
    refine ⟨.ref a0, g1, h _ B σ H ρ c ds _ _ R e1 fun vs B' H' x dv => ?_⟩
    show spD K F ((.ref a0 :: vs) ++ []) H' Q E0
    rw [List.append_nil]
    exact ⟨a0, vs, ds, B', c1, d, c', rfl, x.bh, x.cfree R a0 rfl, x.cell a0 rfl, dv, e2, fun v B2 H2 g dd => q v B2 H2 (R.trans x g) dd⟩
  · cases e
/-- calls with keywords: what comes in the def's order -/
def sCallK (F : List D → Option D) (gV : List D → List D → List D) (a b : SA) : SE := fun ρ c => (a ρ c).bind fun p => (b ρ p.2).bind fun q => (F (gV p.1 q.1)).bind fun d => some (d, q.2)
theorem imp_callK {F : List D → Option D} {gV : List V → List V → List V} {gD : List D → List D → List D} {t u : TA} {a b : SA} (hg : ∀ (B : Hp) vs us ds es, DpAll K B vs ds → DpAll K B us es → DpAll K B (gV vs us) (gD ds es)) (h : ImpA K t a) (h2 : ImpA K u b) :
    ImpE K (tCallK (spP K F) gV E0 t u) (sCallK F gD a b) := fun ad B σ H ρ c d c' Q R e q => by
  obtain ⟨⟨ds, c1⟩, e1, e2⟩ := Option.bind_eq_some_iff.mp e
  obtain ⟨⟨es, c2⟩, e3, e4⟩ := Option.bind_eq_some_iff.mp e2
  obtain ⟨d', e5, e6⟩ := Option.bind_eq_some_iff.mp e4
  cases e6
  refine h ad B σ H ρ c ds _ _ R e1 fun vs B1 H1 x dv => ?_
  refine h2 ad B1 σ H1 ρ c1 es _ _ (R.fw x) e3 fun us B2 H2 y du => ?_
  have f2 := R.trans x y
  exact ⟨gD ds es, B2, d, y.bh, hg B2 _ _ _ _ (dpAll_mono y.bb _ _ dv) du, e5, fun v B3 H3 g dd => q v B3 H3 (R.trans f2 (g.fw y.cell)) dd⟩

/-! ### a def's body -/
def endF : Option (Fl × Rho × Dr) → Option (D × Dr)
  | some (.rt d, _, c) => some (d, c)
  | some (.nx, _, c) => some (.none, c)
  | _ => none
def bodyP (m n : Nat) (f : SS) : List D → Option D := fun ds => if ds.length = m then (endF (f (ds.map .im ++ List.replicate n .un) (0, 0))).map (·.1) else none
def bodyD (m n : Nat) (f : SS) : List D → Dr → Option (D × Dr) := fun ds c => if ds.length = m then endF (f (.dr :: (ds.map .im ++ List.replicate n .un)) c) else none
theorem start_get {N : List Str} {vs : List V} {i : Nat} {v : V} (h : vs[i]? = some v) : (L2.start N vs)[i]? = some (some v) := by
  unfold L2.start
  have hi : i < (vs.map some).length := by rw [List.length_map]; exact (List.getElem?_eq_some_iff.mp h).1
  rw [List.getElem?_append_left hi, List.getElem?_map, h]
  rfl
theorem slots_start {B H : Hp} {ad : Option Addr} {n : Nat} {N : List Str} : ∀ {vs : List V} {ds : List D}, DpAll K B vs ds → ∀ (i : Nat) (s : Sl), (ds.map Sl.im ++ List.replicate n Sl.un)[i]? = some s → SlOk K ad B H (L2.start N vs)[i]? s := fun {vs ds} h i s e => by
  by_cases hi : i < ds.length
  · rw [List.getElem?_append_left (by rw [List.length_map]; exact hi), List.getElem?_map, List.getElem?_eq_getElem hi] at e
    cases e
    obtain ⟨v, e1, e2⟩ := dpAll_get h (List.getElem?_eq_getElem hi)
    exact ⟨v, start_get e1, e2⟩
  · rw [List.getElem?_append_right (by rw [List.length_map]; omega)] at e
    have := List.mem_of_getElem? e
    rw [List.mem_replicate] at this
    rw [this.2]
    trivial
theorem noOwn_start {n : Nat} {ds : List D} {i : Nat} {s : Sl} (e : (ds.map Sl.im ++ List.replicate n Sl.un)[i]? = some s) : owns s = false := by
  have hm := List.mem_of_getElem? e
  rcases List.mem_append.mp hm with z | z
  · obtain ⟨d, _, rfl⟩ := List.mem_map.mp z; rfl
  · rw [List.mem_replicate] at z; rw [z.2]; rfl
theorem rl_start {B H : Hp} {N : List Str} {vs : List V} {ds : List D} {n : Nat} (s : Same B H) (h : DpAll K B vs ds) (hl : N.length = vs.length + n) : Rl K none B (L2.start N vs) H (ds.map Sl.im ++ List.replicate n Sl.un) (0, 0) := by
  refine ⟨s, fun a e => (by cases e), fun a e => (by cases e), ?_, slots_start h, fun i j s t a hij e1 e2 o1 => by rw [noOwn_start e1] at o1; cases o1⟩
  unfold L2.start
  rw [List.length_append, List.length_append, List.length_map, List.length_map, List.length_replicate, List.length_replicate, dpAll_len h, hl, dpAll_len h]
  omega
theorem rl_startD {B H : Hp} {N : List Str} {vs : List V} {ds : List D} {n : Nat} {a : Addr} {c : Dr} (s : Same B H) (nB : B a = none) (hc : H a = some (.lst [.int c.1, .int c.2])) (h : DpAll K B vs ds) (hl : N.length = vs.length + 1 + n) :
    Rl K (some a) B (L2.start N (.ref a :: vs)) H (.dr :: (ds.map Sl.im ++ List.replicate n Sl.un)) c := by
  have es : L2.start N (.ref a :: vs) = some (.ref a) :: (vs.map some ++ List.replicate n none) := by
    unfold L2.start
    rw [List.map_cons, List.cons_append, List.length_cons, hl]
    congr 3
    omega
  have es2 : ∀ (i : Nat), (vs.map some ++ List.replicate n (none : Option V))[i]? = (L2.start (List.replicate (vs.length + n) "") vs)[i]? := fun i => by
    unfold L2.start
    rw [List.length_replicate]
    congr 4
    omega
  rw [es]
  refine ⟨s, fun b e => (by cases e; exact hc), fun b e => (by cases e; exact nB), ?_, fun i t e => ?_, fun i j s t b hij e1 e2 o1 o2 => ?_⟩
  · rw [List.length_cons, List.length_cons, List.length_append, List.length_append, List.length_map, List.length_map, List.length_replicate, List.length_replicate, dpAll_len h]
  · cases i with
    | zero =>
      simp at e
      subst e
      exact ⟨a, rfl, rfl⟩
    | succ i =>
      rw [List.getElem?_cons_succ] at e ⊢
      rw [es2]
      exact slots_start h i t e
  · cases i with
    | zero =>
      simp at e1
      subst e1
      cases o1
    | succ i =>
      rw [List.getElem?_cons_succ] at e1
      rw [noOwn_start e1] at o1; cases o1
theorem noOwned {ρ : Rho} {σ : L2.St} (h : ∀ (i : Nat) (s : Sl), ρ[i]? = some s → owns s = false) (a : Addr) : ¬ Owned ρ σ a := fun ⟨i, s, e1, e2, _⟩ => by
  rw [h i s e1] at e2; cases e2
section
variable {P : Program} {w : World} {mg : Str → Option Value} {base : Heap} {x qual : Str} {st : Stmt} {f : Addr} {fd : FuncData} {N ps : List Str} {k n : Nat}
theorem okP {g : SS} (F : Fun K x qual st f fd) (S : FnScope N ps (defScope st)) (hn : N.length = ps.length + n)
    (hb : ∀ (cdv : Value) (A : Around) (outer : List Env) (s : Shared) (H : Hp) (E : XK), Room k (A.deeper (PyProof.Rows.envOfC qual (defScope st) s.heap.objs.size f cdv)) → ∃ t, PSs (cxOf CX0 P w K mg base N qual (defScope st) f cdv A outer s H E).nox (defBody st) t ∧ ImpS K t g) :
    FnOk P w K mg base CX0 (k + 1) f fd ps (spP K (bodyP ps.length n g)) := by
  have hlen : ∀ vs H Q E, spP K (bodyP ps.length n g) vs H Q E → vs.length = ps.length := fun vs H Q E h => by
    obtain ⟨ds, B, d, s, da, e, _⟩ := h
    unfold bodyP at e
    split at e
    · rename_i hl
      rw [dpAll_len da, hl]
    · cases e
  refine F.ok S hlen fun cdv A outer s H vs Q E hr h => ?_
  have hl := hlen vs H Q E h
  obtain ⟨t, ht, im⟩ := hb cdv A outer s H E hr
  obtain ⟨ds, B, d, sB, da, e, q⟩ := h
  refine ⟨t, ht, ?_⟩
  unfold bodyP at e
  split at e
  · rename_i hd
    obtain ⟨⟨d', c'⟩, e1, e2⟩ := Option.map_eq_some_iff.mp e
    cases e2
    have R := rl_start (N := N) sB da (n := n) (by rw [hl]; exact hn)
    have no : ∀ a, ¬ Owned (ds.map Sl.im ++ List.replicate n Sl.un) (L2.start N vs) a := noOwned fun i s e => noOwn_start e
    have gr : ∀ {B' H' : Hp}, Same B B' → Same B' H' → (∀ a o, none ≠ some a → H a = some o → ¬ Owned (ds.map Sl.im ++ List.replicate n Sl.un) (L2.start N vs) a → H' a = some o) → (∀ a o, B' a = some o → B a = none → H a = none ∨ Owned (ds.map Sl.im ++ List.replicate n Sl.un) (L2.start N vs) a) → Grow B H B' H' :=
      fun h1 h2 h3 h4 => ⟨h1, h2, fun a o z => h3 a o (fun z => nomatch z) z (no a), fun a o z1 z2 => (h4 a o z1 z2).elim id fun z => absurd z (no a)⟩
    cases r : g (ds.map Sl.im ++ List.replicate n Sl.un) (0, 0) with
    | none => rw [r] at e1; cases e1
    | some r0 =>
      rw [r] at e1
      refine im none B (L2.start N vs) H _ (0, 0) r0 _ R r ?_
      obtain ⟨fl, ρ', c2⟩ := r0
      cases fl with
      | rt d2 =>
        cases e1
        exact fun v B' σ' H' R' y dv => q v B' H' (gr y.bb R'.sub y.keep y.fresh) dv
      | nx =>
        cases e1
        exact fun B' σ' H' R' y => q _ B' H' (gr y.bb R'.sub y.keep y.fresh) .non
      | bk => cases e1
      | ct => cases e1
  · cases e
theorem okD {g : SS} {y : Str} (F : Fun K x qual st f fd) (S : FnScope N (y :: ps) (defScope st)) (hn : N.length = ps.length + 1 + n)
    (hb : ∀ (cdv : Value) (A : Around) (outer : List Env) (s : Shared) (H : Hp) (E : XK), Room k (A.deeper (PyProof.Rows.envOfC qual (defScope st) s.heap.objs.size f cdv)) → ∃ t, PSs (cxOf CX0 P w K mg base N qual (defScope st) f cdv A outer s H E).nox (defBody st) t ∧ ImpS K t g) :
    FnOk P w K mg base CX0 (k + 1) f fd (y :: ps) (spD K (bodyD ps.length n g)) := by
  have hlen : ∀ vs H Q E, spD K (bodyD ps.length n g) vs H Q E → vs.length = (y :: ps).length := fun vs H Q E h => by
    obtain ⟨a, vs', ds, B, c, d, c', rfl, s, nB, hc, da, e, _⟩ := h
    unfold bodyD at e
    split at e
    · rename_i hl
      rw [List.length_cons, List.length_cons, dpAll_len da, hl]
    · cases e
  refine F.ok S hlen fun cdv A outer s H vs Q E hr h => ?_
  have hl := hlen vs H Q E h
  obtain ⟨t, ht, im⟩ := hb cdv A outer s H E hr
  obtain ⟨a, vs', ds, B, c, d, c', rfl, sB, nB, hc, da, e, q⟩ := h
  refine ⟨t, ht, ?_⟩
  unfold bodyD at e
  split at e
  · rename_i hd
    have R := rl_startD (N := N) sB nB hc da (n := n) (by
      rw [List.length_cons, List.length_cons] at hl
      omega)
    have no : ∀ b, ¬ Owned (.dr :: (ds.map Sl.im ++ List.replicate n Sl.un)) (L2.start N (.ref a :: vs')) b := noOwned fun i s e => by
      cases i with
      | zero => simp at e; subst e; rfl
      | succ i => rw [List.getElem?_cons_succ] at e; exact noOwn_start e
    have gr : ∀ {B' H' : Hp} {c' : Dr}, Same B B' → Same B' H' → (∀ b, some a = some b → H' b = some (.lst [.int c'.1, .int c'.2])) → (∀ b o, some a ≠ some b → H b = some o → ¬ Owned (.dr :: (ds.map Sl.im ++ List.replicate n Sl.un)) (L2.start N (.ref a :: vs')) b → H' b = some o) →
        (∀ b o, B' b = some o → B b = none → H b = none ∨ Owned (.dr :: (ds.map Sl.im ++ List.replicate n Sl.un)) (L2.start N (.ref a :: vs')) b) → Fw (some a) c' B H B' H' :=
      fun h1 h2 hcell h3 h4 => ⟨h1, h2, fun b o z1 z => h3 b o z1 z (no b), hcell, fun b o z1 z2 => (h4 b o z1 z2).elim id fun z => absurd z (no b)⟩
    cases r : g (.dr :: (ds.map Sl.im ++ List.replicate n Sl.un)) c with
    | none => rw [r] at e; cases e
    | some r0 =>
      rw [r] at e
      refine im (some a) B (L2.start N (.ref a :: vs')) H _ c r0 _ R r ?_
      obtain ⟨fl, ρ', c2⟩ := r0
      cases fl with
      | rt d2 =>
        cases e
        exact fun v B' σ' H' R' y dv => q v B' H' (gr y.bb R'.sub R'.cell y.keep y.fresh) dv
      | nx =>
        cases e
        exact fun B' σ' H' R' y => q _ B' H' (gr y.bb R'.sub R'.cell y.keep y.fresh) .non
      | bk => cases e
      | ct => cases e
  · cases e
end
end
end DL
/-! DLt: tuple * int for any small count. -/
namespace DL
open PySem PySem.Spec PyProof.Rows L2
theorem tup_mul_same (l : Addr) (items : Array Value) (n : Nat) (dd : Option Addr) (sl : Array (Option Value)) (x : Int) (u : Tok) (c0 : (decide (x < -(2 ^ 63)) || decide (x ≥ 2 ^ 63)) = false) (c1 : (items.isEmpty || x == 1) = true) :
    Meets (Builtin.«tuple.__mul__» ⟨[.ref l, .int x u], []⟩) (fun _ R s => s.heap.get? l = some { cls := .type "tuple", dict := dd, data := .seq items n, slots := sl } ∧ R (.ok (.ret (Value.ref l))) s) :=
  .of_wp fun prog w A R s h => by
    obtain ⟨hp, g, d, tk, os⟩ := s
    obtain ⟨hl, h⟩ := h
    have f1 := AutoSeq1.idx_int
    wp_walk using wpAny_loadPart' hl
    repeat (first
      | (refine wpAny_ite_false (decide_eq_false (by rw [c0]; exact Bool.false_ne_true)) ?_; wp_walk using wpAny_loadPart' hl)
      | (refine wpAny_ite_true (decide_eq_true (by rw [c1])) ?_; wp_walk using wpAny_loadPart' hl))
    all_goals exact ⟨_, rfl, h⟩
theorem tup_mul_none (l : Addr) (items : Array Value) (n : Nat) (dd : Option Addr) (sl : Array (Option Value)) (x : Int) (u : Tok) (c0 : (decide (x < -(2 ^ 63)) || decide (x ≥ 2 ^ 63)) = false) (c1 : (items.isEmpty || x == 1) = false) (c2 : (decide (x ≤ 0) || items.isEmpty) = true) :
    Meets (Builtin.«tuple.__mul__» ⟨[.ref l, .int x u], []⟩) (fun _ R s => s.heap.get? l = some { cls := .type "tuple", dict := dd, data := .seq items n, slots := sl } ∧
      R (.ok (.ret (Value.ref s.heap.objs.size))) { s with heap := s.heap.push { cls := Value.type "tuple", data := Data.seq #[] }, toks := s.toks }) :=
  .of_wp fun prog w A R s h => by
    obtain ⟨hp, g, d, tk, os⟩ := s
    obtain ⟨hl, h⟩ := h
    have f1 := AutoSeq1.idx_int
    wp_walk using wpAny_loadPart' hl
    repeat (first
      | (refine wpAny_ite_false (decide_eq_false (by rw [c0]; exact Bool.false_ne_true)) ?_; wp_walk using wpAny_loadPart' hl)
      | (refine wpAny_ite_false (decide_eq_false (by rw [c1]; exact Bool.false_ne_true)) ?_; wp_walk using wpAny_loadPart' hl)
      | (refine wpAny_ite_true (decide_eq_true (by rw [c2])) ?_; wp_walk using wpAny_loadPart' hl))
    all_goals exact ⟨_, rfl, h⟩
/-- t * k, k small -/
def rRepA (K : PySem.W.Frag) : R2 := fun x y H Q => ∃ l k xs, x = .ref l ∧ y = .int k ∧ SqT K H l xs ∧ -1000 ≤ k ∧ k ≤ 1000 ∧ xs.length ≤ 1000 ∧ (xs = [] ∨ k = 1 → Q (.ref l) H) ∧ (xs ≠ [] → k ≤ 0 → ∀ p, H p = none → Q (.ref p) (upd H p (.tup []))) ∧
  (xs ≠ [] → 2 ≤ k → ∀ p, H p = none → Q (.ref p) (upd H p (.tup (List.replicate k.toNat xs).flatten)))
section
variable {X : Cx}
theorem op_repA : OpR X (binaryOp .Mult) (rRepA X.K) := by
  intro pins s σ H x y v u Q I rx ry h
  obtain ⟨l, k, xs, rfl, rfl, hT, h1, h2, hz, q1, q2, q3⟩ := h
  by_cases c1 : xs = [] ∨ k = 1
  · cases rx
    obtain ⟨t, rfl⟩ := ry
    obtain ⟨its, r, ⟨⟨cls, dd, data, sl⟩, ho, hc, n, hd⟩, hs⟩ := I.tuple hT
    simp only at hc hd
    subst hc hd
    have c0 : (decide (k < -(2 ^ 63)) || decide (k ≥ 2 ^ 63)) = false := by
      rw [decide_eq_false (by omega), decide_eq_false (by omega)] <;> rfl
    have c1' : (its.toArray.isEmpty || k == 1) = true := by
      rcases c1 with e | e
      · subst e
        cases r
        rfl
      · subst e
        simp
    refine wpAny_binaryOp_repeat_ref (T := "tuple") (U := "int") (by decide) ⟨_, ho, rfl⟩ (fun s' => typeIs_int s' k t) noFill_tuple_mul F.fills_int_mul F.slot_int_rmul repeat_tuple F.slot_int_index.lookup
      (call_meets F.slot_int_rmul (typeIs_int s k t) F.entry_int_rmul (F.args_int_rmul_2 _ _) (int_rmul_tuple k t l its.toArray n dd sl)
        ⟨ho, rfl, ⟨_, ho, rfl⟩, call_meets F.slot_tuple_mul ⟨_, ho, rfl⟩ F.entry_tuple_mul (F.args_tuple_mul_2 _ _) (tup_mul_same l its.toArray n dd sl k t c0 c1') ⟨ho, ?_⟩⟩)
    exact ⟨.ref l, H, I, rfl, q1 c1⟩
  · have hne : xs ≠ [] := fun e => c1 (.inl e)
    have hk : k ≠ 1 := fun e => c1 (.inr e)
    by_cases hk0 : k ≤ 0
    · cases rx
      obtain ⟨t, rfl⟩ := ry
      obtain ⟨its, r, ⟨⟨cls, dd, data, sl⟩, ho, hc, n, hd⟩, hs⟩ := I.tuple hT
      simp only at hc hd
      subst hc hd
      have hi : its.toArray.isEmpty = false := by
        cases r with
        | nil => exact absurd rfl hne
        | cons a b => rfl
      have c0 : (decide (k < -(2 ^ 63)) || decide (k ≥ 2 ^ 63)) = false := by
        rw [decide_eq_false (by omega), decide_eq_false (by omega)] <;> rfl
      have c1' : (its.toArray.isEmpty || k == 1) = false := by
        rw [hi, Bool.false_or]
        exact beq_eq_false_iff_ne.mpr hk
      have c2' : (decide (k ≤ 0) || its.toArray.isEmpty) = true := by
        rw [decide_eq_true hk0]; rfl
      refine wpAny_binaryOp_repeat_ref (T := "tuple") (U := "int") (by decide) ⟨_, ho, rfl⟩ (fun s' => typeIs_int s' k t) noFill_tuple_mul F.fills_int_mul F.slot_int_rmul repeat_tuple F.slot_int_index.lookup
        (call_meets F.slot_int_rmul (typeIs_int s k t) F.entry_int_rmul (F.args_int_rmul_2 _ _) (int_rmul_tuple k t l its.toArray n dd sl)
          ⟨ho, rfl, ⟨_, ho, rfl⟩, call_meets F.slot_tuple_mul ⟨_, ho, rfl⟩ F.entry_tuple_mul (F.args_tuple_mul_2 _ _) (tup_mul_none l its.toArray n dd sl k t c0 c1' c2') ⟨ho, ?_⟩⟩)
      refine ⟨.ref s.heap.objs.size, _, I.laid (t' := s.toks) (o := .tup []) (fun b ob q => Heap.get?_push_of_some _ q) (Nat.le_refl _) ?_, rfl, q2 hne hk0 _ (I.hok.fresh (Nat.le_refl _))⟩
      exact ⟨Nat.zero_le _, [], .nil, IsTup.new _ _⟩
    · exact op_repT pins s σ H _ _ v u Q I rx ry ⟨l, k, xs, rfl, rfl, hT, hne, by omega, h2, hz, q3 hne (by omega)⟩
end
end DL
/-! DLg: operators and built-ins, on data. -/
namespace DL
open PySem PySem.Spec L2
open PyProof.Rows (b2i)
section
variable {K : PySem.W.Frag}
theorem Grow.newTup {B H : Hp} {p : Addr} {vs : List V} {ds : List D} (s : Same B H) (np : H p = none) (h : DpAll K B vs ds) : Grow B H (upd B p (.tup vs)) (upd H p (.tup vs)) ∧ Dp K (upd B p (.tup vs)) (.ref p) (.tuple ds) := ⟨Grow.new s np, dp_newTup (s.free np) h⟩
theorem Grow.newLst {B H : Hp} {p : Addr} {vs : List V} {ds : List D} (s : Same B H) (np : H p = none) (h : DpAll K B vs ds) : Grow B H (upd B p (.lst vs)) (upd H p (.lst vs)) ∧ Dp K (upd B p (.lst vs)) (.ref p) (.list ds) := ⟨Grow.new s np, dp_newLst (s.free np) h⟩
/-! ### + - * / % ** -/
def addD : D → D → Option D
  | .int a, .int b => some (.int (a + b))
  | .int a, .bool b => some (.int (a + b2i b))
  | .list xs, .list ys => if few (xs.length + ys.length) = true then some (.list (xs ++ ys)) else none
  | .tuple xs, .tuple ys => if few (xs.length + ys.length) = true then some (.tuple (xs ++ ys)) else none
  | .str x, .str y => if few (x.length + y.length) = true then some (.str (x ++ y)) else none
  | _, _ => none
abbrev rAddA (K : PySem.W.Frag) : R2 := fun x y H Q => (rI0 fun i j => .int (i + j)) x y H Q ∨ (rCat x y H Q ∨ (rCatA K x y H Q ∨ ((∃ i j, x = .str i ∧ y = .str j ∧ i.length + j.length ≤ sizeLine ∧ Q (.str (i ++ j)) H) ∨ (∃ i k, x = .int i ∧ y = .bl k ∧ Q (.int (i + b2i k)) H))))
theorem op_addA {X : Cx} : OpR X (binaryOp .Add) (rAddA X.K) := op_add.or (op_cat.or (op_catA.or (op_add_str.or op_add_ib)))
theorem d_add : OpD K (rAddA K) addD := fun B H x y d e z Q s hx hy h q => by
  cases hx with
  | int a =>
    cases hy with
    | int b => cases h; exact .inl ⟨a, b, rfl, rfl, q _ B H (Grow.refl s) (.int _)⟩
    | bl b => cases h; exact .inr (.inr (.inr (.inr ⟨a, b, rfl, rfl, q _ B H (Grow.refl s) (.int _)⟩)))
    | _ => cases h
  | str a =>
    cases hy with
    | str b =>
      have h' : (if few (a.length + b.length) = true then some (PyData.str (a ++ b)) else none) = some z := h
      split at h'
      · rename_i hz
        cases h'
        exact .inr (.inr (.inr (.inl ⟨a, b, rfl, rfl, few_line hz, q _ B H (Grow.refl s) (.str _)⟩)))
      · cases h'
    | _ => cases h
  | @lst a xs ds h1 h2 =>
    cases hy with
    | @lst b ys es g1 g2 =>
      have h' : (if few (ds.length + es.length) = true then some (PyData.list (ds ++ es)) else none) = some z := h
      split at h'
      · rename_i hz
        cases h'
        refine .inr (.inl ⟨a, b, xs, ys, rfl, rfl, s _ _ h1, s _ _ g1, by rw [dpAll_len h2, dpAll_len g2]; exact few_line hz, fun p np => ?_⟩)
        obtain ⟨g, dd⟩ := Grow.newLst s np (dpAll_append h2 g2)
        exact q _ _ _ g dd
      · cases h'
    | _ => cases h
  | @tup a xs ds h1 h2 =>
    cases hy with
    | @tup b ys es g1 g2 =>
      have h' : (if few (ds.length + es.length) = true then some (PyData.tuple (ds ++ es)) else none) = some z := h
      split at h'
      · rename_i hz
        cases h'
        refine .inr (.inr (.inl ⟨a, b, xs, ys, rfl, rfl, SqT.of (s _ _ h1), SqT.of (s _ _ g1), by rw [dpAll_len h2, dpAll_len g2]; exact few_line hz, fun ex => ?_, fun _ ey => ?_, fun _ _ p np => ?_⟩))
        · subst ex
          cases h2
          exact q _ B H (Grow.refl s) (.tup g1 g2)
        · subst ey
          cases g2
          rw [List.append_nil] at q
          exact q _ B H (Grow.refl s) (.tup h1 h2)
        · obtain ⟨g, dd⟩ := Grow.newTup s np (dpAll_append h2 g2)
          exact q _ _ _ g dd
      · cases h'
    | _ => cases h
  | _ => cases h
def subD : D → D → Option D
  | .int a, .int b => some (.int (a - b))
  | _, _ => none
theorem d_sub : OpD K (rI0 fun i j => .int (i - j)) subD := fun B H x y d e z Q s hx hy h q => by
  cases hx with
  | int a =>
    cases hy with
    | int b => cases h; exact ⟨a, b, rfl, rfl, q _ B H (Grow.refl s) (.int _)⟩
    | _ => cases h
  | _ => cases h
theorem d_ipadd : OpD K (ipI fun i j => i + j) (fun d e => match d, e with | .int a, .int b => some (.int (a + b)) | _, _ => none) := fun B H x y d e z Q s hx hy h q => by
  cases hx with
  | int a =>
    cases hy with
    | int b => cases h; exact ⟨a, b, rfl, rfl, q _ B H (Grow.refl s) (.int _)⟩
    | _ => cases h
  | _ => cases h
def ipaddD : D → D → Option D := fun d e => match d, e with | .int a, .int b => some (.int (a + b)) | _, _ => none
theorem d_ip : OpD K (ipI fun i j => i + j) ipaddD := d_ipadd
/-- a factor that is not great -/
def midI (i : Int) : Bool := decide (i.natAbs < 2 ^ 64)
theorem midI_to {i : Int} (h : midI i = true) : -(2 ^ 64) < i ∧ i < 2 ^ 64 := by
  have := of_decide_eq_true h
  constructor <;> omega
def mulD : D → D → Option D
  | .int a, .int b => if midI a = true ∨ midI b = true ∨ a.natAbs.log2 + b.natAbs.log2 < 1000000 then some (.int (a * b)) else none
  | .list xs, .int k => if few xs.length = true ∧ xs.length * k.toNat ≤ 1000000 ∧ -1000000 ≤ k ∧ k ≤ 1000000 then some (.list (List.replicate k.toNat xs).flatten) else none
  | .tuple xs, .int k => if xs.length ≤ 1000 ∧ -1000 ≤ k ∧ k ≤ 1000 then some (.tuple (List.replicate k.toNat xs).flatten) else none
  | _, _ => none
abbrev rMulA (K : PySem.W.Frag) : R2 := fun x y H Q => (rI CMul fun i j => .int (i * j)) x y H Q ∨ (rRep x y H Q ∨ (rRepA K x y H Q ∨ (rI CMulW fun i j => .int (i * j)) x y H Q))
theorem op_mulA {X : Cx} : OpR X (binaryOp .Mult) (rMulA X.K) := op_mul.or (op_rep.or (op_repA.or op_mulW))
theorem d_mul : OpD K (rMulA K) mulD := fun B H x y d e z Q s hx hy h q => by
  cases hx with
  | int a =>
    cases hy with
    | int b =>
      have h' : (if midI a = true ∨ midI b = true ∨ a.natAbs.log2 + b.natAbs.log2 < 1000000 then some (PyData.int (a * b)) else none) = some z := h
      split at h'
      · rename_i hz
        cases h'
        rcases hz with w | w | w
        · exact .inl ⟨a, b, rfl, rfl, .inl (midI_to w), q _ B H (Grow.refl s) (.int _)⟩
        · exact .inl ⟨a, b, rfl, rfl, .inr (midI_to w), q _ B H (Grow.refl s) (.int _)⟩
        · exact .inr (.inr (.inr ⟨a, b, rfl, rfl, w, q _ B H (Grow.refl s) (.int _)⟩))
      · cases h'
    | _ => cases h
  | @lst a xs ds h1 h2 =>
    cases hy with
    | int k =>
      have h' : (if few ds.length = true ∧ ds.length * k.toNat ≤ 1000000 ∧ -1000000 ≤ k ∧ k ≤ 1000000 then some (PyData.list (List.replicate k.toNat ds).flatten) else none) = some z := h
      split at h'
      · rename_i hz
        cases h'
        obtain ⟨z1, z2, z3, z4⟩ := hz
        refine .inr (.inl ⟨a, k, xs, rfl, rfl, s _ _ h1, by omega, by omega, by rw [dpAll_len h2, sizeLine_eq]; omega, fun p np => ?_⟩)
        obtain ⟨g, dd⟩ := Grow.newLst s np (dpAll_rep h2 k.toNat)
        exact q _ _ _ g dd
      · cases h'
    | _ => cases h
  | @tup a xs ds h1 h2 =>
    cases hy with
    | int k =>
      have h' : (if ds.length ≤ 1000 ∧ -1000 ≤ k ∧ k ≤ 1000 then some (PyData.tuple (List.replicate k.toNat ds).flatten) else none) = some z := h
      split at h'
      · rename_i hz
        cases h'
        obtain ⟨z1, z2, z3⟩ := hz
        refine .inr (.inr (.inl ⟨a, k, xs, rfl, rfl, SqT.of (s _ _ h1), by omega, by omega, by rw [dpAll_len h2]; exact z1, fun c1 => ?_, fun hn hk p np => ?_, fun hn hk p np => ?_⟩))
        · have e : (List.replicate k.toNat ds).flatten = ds := by
            rcases c1 with w | w
            · subst w
              cases h2
              exact List.flatten_replicate_nil
            · subst w
              show ([ds] : List (List D)).flatten = ds
              simp
          rw [e] at q
          exact q _ B H (Grow.refl s) (.tup h1 h2)
        · have e : k.toNat = 0 := by omega
          rw [e] at q
          obtain ⟨g, dd⟩ := Grow.newTup s np (DpAll.nil (K := K))
          exact q _ _ _ g dd
        · obtain ⟨g, dd⟩ := Grow.newTup s np (dpAll_rep h2 k.toNat)
          exact q _ _ _ g dd
      · cases h'
    | _ => cases h
  | _ => cases h
def fdivD : D → D → Option D
  | .int a, .int b => if 0 < b ∧ b.natAbs < 1073741824 then some (.int (a / b)) else none
  | _, _ => none
theorem d_fdiv : OpD K (rI CDiv fun i j => .int (i / j)) fdivD := fun B H x y d e z Q s hx hy h q => by
  cases hx with
  | int a =>
    cases hy with
    | int b =>
      have h' : (if 0 < b ∧ b.natAbs < 1073741824 then some (PyData.int (a / b)) else none) = some z := h
      split at h'
      · rename_i hz
        cases h'
        exact ⟨a, b, rfl, rfl, ⟨hz.1, by omega⟩, q _ B H (Grow.refl s) (.int _)⟩
      · cases h'
    | _ => cases h
  | _ => cases h
def modD : D → D → Option D
  | .int a, .int b => if 0 < b then some (.int (a % b)) else none
  | _, _ => none
theorem d_mod : OpD K (rI (fun _ j => 0 < j) fun i j => .int (i % j)) modD := fun B H x y d e z Q s hx hy h q => by
  cases hx with
  | int a =>
    cases hy with
    | int b =>
      have h' : (if 0 < b then some (PyData.int (a % b)) else none) = some z := h
      split at h'
      · rename_i hz
        cases h'
        exact ⟨a, b, rfl, rfl, hz, q _ B H (Grow.refl s) (.int _)⟩
      · cases h'
    | _ => cases h
  | _ => cases h
def powD : D → D → Option D
  | .int a, .int b => if 0 ≤ b ∧ b ≤ 1000000 ∧ a.natAbs < 2 ^ 64 then some (.int (a ^ b.toNat)) else none
  | _, _ => none
theorem d_pow : OpD K (rI CPow fun i j => .int (i ^ j.toNat)) powD := fun B H x y d e z Q s hx hy h q => by
  cases hx with
  | int a =>
    cases hy with
    | int b =>
      have h' : (if 0 ≤ b ∧ b ≤ 1000000 ∧ a.natAbs < 2 ^ 64 then some (PyData.int (a ^ b.toNat)) else none) = some z := h
      split at h'
      · rename_i hz
        cases h'
        exact ⟨a, b, rfl, rfl, hz, q _ B H (Grow.refl s) (.int _)⟩
      · cases h'
    | _ => cases h
  | _ => cases h
def negD : D → Option D
  | .int a => some (.int (-a))
  | _ => none
theorem d_neg : UnD K (rU fun i => .int (-i)) negD := fun B H x d z Q s hx h q => by
  cases hx with
  | int a => cases h; exact ⟨a, rfl, q _ B H (Grow.refl s) (.int _)⟩
  | _ => cases h
/-! ### comparisons -/
def eqD (d e : D) : Option D := if SeqAt.shaped d = true ∧ SeqAt.shaped e = true then some (.bool (PyData.eqv d e)) else none
def neD (d e : D) : Option D := if SeqAt.shaped d = true ∧ SeqAt.shaped e = true then some (.bool (!PyData.eqv d e)) else none
theorem d_eq : OpD K (rEqD K) eqD := fun B H x y d e z Q s hx hy h q => by
  unfold eqD at h
  split at h
  · rename_i hz
    cases h
    exact ⟨d, e, dp_old _ _ (dp_mono s _ _ hx), dp_old _ _ (dp_mono s _ _ hy), hz.1, hz.2, q _ B H (Grow.refl s) (.bl _)⟩
  · cases h
theorem d_ne : OpD K (rNeD K) neD := fun B H x y d e z Q s hx hy h q => by
  unfold neD at h
  split at h
  · rename_i hz
    cases h
    exact ⟨d, e, dp_old _ _ (dp_mono s _ _ hx), dp_old _ _ (dp_mono s _ _ hy), hz.1, hz.2, q _ B H (Grow.refl s) (.bl _)⟩
  · cases h
def cmpD (p : Int → Int → Bool) : D → D → Option D
  | .int a, .int b => some (.bool (p a b))
  | _, _ => none
theorem d_cmp {p : Int → Int → Bool} : OpD K (rI0 fun i j => .bl (p i j)) (cmpD p) := fun B H x y d e z Q s hx hy h q => by
  cases hx with
  | int a =>
    cases hy with
    | int b => cases h; exact ⟨a, b, rfl, rfl, q _ B H (Grow.refl s) (.bl _)⟩
    | _ => cases h
  | _ => cases h
abbrev ltD := cmpD fun i j => decide (i < j)
abbrev leD := cmpD fun i j => decide (i ≤ j)
abbrev gtD := cmpD fun i j => decide (j < i)
abbrev geD := cmpD fun i j => decide (j ≤ i)
theorem d_lt : OpD K (rI0 fun i j => .bl (decide (i < j))) ltD := d_cmp
theorem d_le : OpD K (rI0 fun i j => .bl (decide (i ≤ j))) leD := d_cmp
theorem d_gt : OpD K (rI0 fun i j => .bl (decide (j < i))) gtD := d_cmp
theorem d_ge : OpD K (rI0 fun i j => .bl (decide (j ≤ i))) geD := d_cmp
def isNone : D → Bool
  | .none => true
  | _ => false
theorem dp_isNone {B : Hp} {x : V} {d : D} (h : Dp K B x d) : decide (x = .non) = isNone d := by
  cases h <;> simp [isNone]
def isND : D → D → Option D
  | d, .none => some (.bool (isNone d))
  | _, _ => none
def notND : D → D → Option D
  | d, .none => some (.bool (!isNone d))
  | _, _ => none
theorem d_isN : OpD K (fun x y H Q => y = .non ∧ Q (.bl (decide (x = .non))) H) isND := fun B H x y d e z Q s hx hy h q => by
  cases hy with
  | non =>
    cases h
    refine ⟨rfl, ?_⟩
    rw [dp_isNone hx]
    exact q _ B H (Grow.refl s) (.bl _)
  | _ => cases h
theorem d_notN : OpD K (fun x y H Q => y = .non ∧ Q (.bl (!decide (x = .non))) H) notND := fun B H x y d e z Q s hx hy h q => by
  cases hy with
  | non =>
    cases h
    refine ⟨rfl, ?_⟩
    rw [dp_isNone hx]
    exact q _ B H (Grow.refl s) (.bl _)
  | _ => cases h
/-! in, not in -/
/-! ### subscripts, slices -/
def ixD : D → D → Option D
  | .list xs, .int i => atI xs i
  | .tuple xs, .int i => atI xs i
  | _, _ => none
theorem d_ix : OpD K (rIx K) ixD := fun B H x y d e z Q s hx hy h q => by
  cases hx with
  | @lst a xs ds h1 h2 =>
    cases hy with
    | int i =>
      obtain ⟨v, e1, e2⟩ := dpAll_at h2 h
      exact .inl ⟨a, xs, i, v, rfl, rfl, SqL.of (s _ _ h1), e1, q v B H (Grow.refl s) e2⟩
    | _ => cases h
  | @tup a xs ds h1 h2 =>
    cases hy with
    | int i =>
      obtain ⟨v, e1, e2⟩ := dpAll_at h2 h
      exact .inr (.inl ⟨a, xs, i, v, rfl, rfl, SqT.of (s _ _ h1), e1, q v B H (Grow.refl s) e2⟩)
    | _ => cases h
  | _ => cases h
def cutL {α : Type} (xs : List α) (lo hi : Option Int) : List α := (xs.drop (HT.sIx xs.length 0 lo)).take (HT.sIx xs.length xs.length hi - HT.sIx xs.length 0 lo)
theorem dpAll_cut {B : Hp} {ds : List D} {vs : List V} (lo hi : Option Int) (h : DpAll K B vs ds) : DpAll K B (cutV vs lo hi) (cutL ds lo hi) := by
  unfold cutV cutL
  rw [dpAll_len h]
  exact dpAll_take _ (dpAll_drop _ h)
def slD : D → Option Int → Option Int → Option D
  | .list xs, lo, hi => some (.list (cutL xs lo hi))
  | .tuple xs, lo, hi => some (.tuple (cutL xs lo hi))
  | _, _, _ => none
abbrev rSlX (K : PySem.W.Frag) : V → Option Int → Option Int → Hp → VK → Prop := fun x lo hi H Q => rSlL K x lo hi H Q ∨ rSlA K x lo hi H Q
theorem sl_any {X : Cx} : SlR X (rSlX X.K) := sl_list.or sl_tupA
theorem d_sl : SlD K (rSlX K) slD := fun B H x d z lo hi Q s hx h q => by
  cases hx with
  | @lst a xs ds h1 h2 =>
    cases h
    refine .inl ⟨a, xs, rfl, SqL.of (s _ _ h1), fun p np => ?_⟩
    obtain ⟨g, dd⟩ := Grow.newLst s np (dpAll_cut lo hi h2)
    exact q _ _ _ g dd
  | @tup a xs ds h1 h2 =>
    cases h
    refine .inr ⟨a, xs, rfl, SqT.of (s _ _ h1), fun hw => ?_, fun _ p np => ?_⟩
    · have e : cutL ds lo hi = ds := by
        unfold cutL
        rw [← dpAll_len h2, hw.1, hw.2, List.drop_zero, Nat.sub_zero, dpAll_len h2, List.take_length]
      rw [e] at q
      exact q _ B H (Grow.refl s) (.tup h1 h2)
    · obtain ⟨g, dd⟩ := Grow.newTup s np (dpAll_cut lo hi h2)
      exact q _ _ _ g dd
  | _ => cases h
/-! ### built-ins -/
theorem dpAll_1 {B : Hp} {xs : List V} {d : D} (h : DpAll K B xs [d]) : ∃ x, xs = [x] ∧ Dp K B x d := by
  cases h with
  | cons h1 h2 => cases h2; exact ⟨_, rfl, h1⟩
theorem dpAll_2 {B : Hp} {xs : List V} {d e : D} (h : DpAll K B xs [d, e]) : ∃ x y, xs = [x, y] ∧ Dp K B x d ∧ Dp K B y e := by
  cases h with
  | cons h1 h2 =>
    cases h2 with
    | cons h3 h4 => cases h4; exact ⟨_, _, rfl, h1, h3⟩
def lenD : List D → Option D
  | [.list xs] => some (.int xs.length)
  | [.tuple xs] => some (.int xs.length)
  | _ => none
theorem d_len : CallD K (fun xs H Q => ∃ p ys, xs = [.ref p] ∧ (SqL K H p ys ∨ SqT K H p ys) ∧ Q (.int ys.length) H) lenD := fun B H xs ds z Q s hx h q => by
  unfold lenD at h
  split at h
  · cases h
    obtain ⟨x, rfl, h1⟩ := dpAll_1 hx
    obtain ⟨a, vs, rfl, g1, g2⟩ := dp_list h1
    refine ⟨a, vs, rfl, .inl (SqL.of (s _ _ g1)), ?_⟩
    rw [dpAll_len g2]
    exact q _ B H (Grow.refl s) (.int _)
  · cases h
    obtain ⟨x, rfl, h1⟩ := dpAll_1 hx
    obtain ⟨a, vs, rfl, g1, g2⟩ := dp_tuple h1
    refine ⟨a, vs, rfl, .inr (SqT.of (s _ _ g1)), ?_⟩
    rw [dpAll_len g2]
    exact q _ B H (Grow.refl s) (.int _)
  · cases h
/-- all of them ints, bools -/
def intsD : List D → Option (List Int)
  | [] => some []
  | .int i :: ds => (intsD ds).map (i :: ·)
  | _ :: _ => none
def boolsD : List D → Option (List Bool)
  | [] => some []
  | .bool i :: ds => (boolsD ds).map (i :: ·)
  | _ :: _ => none
theorem ints_ok {B : Hp} : ∀ {ds : List D} {vs : List V} {ns : List Int}, DpAll K B vs ds → intsD ds = some ns → vs = ns.map V.int
  | [], _, _, h, e => by cases h; cases e; rfl
  | d :: ds, _, ns, h, e => by
    cases h with
    | cons h1 h2 =>
      cases d with
      | int i =>
        obtain ⟨ms, e1, e2⟩ := Option.map_eq_some_iff.mp (show (intsD ds).map (i :: ·) = some ns from e)
        subst e2
        rw [ints_ok h2 e1, dp_int h1]
        rfl
      | _ => cases e
theorem bools_ok {B : Hp} : ∀ {ds : List D} {vs : List V} {ns : List Bool}, DpAll K B vs ds → boolsD ds = some ns → vs = ns.map V.bl
  | [], _, _, h, e => by cases h; cases e; rfl
  | d :: ds, _, ns, h, e => by
    cases h with
    | cons h1 h2 =>
      cases d with
      | bool i =>
        obtain ⟨ms, e1, e2⟩ := Option.map_eq_some_iff.mp (show (boolsD ds).map (i :: ·) = some ns from e)
        subst e2
        rw [bools_ok h2 e1, dp_bool h1]
        rfl
      | _ => cases e
theorem intsD_map : ∀ ns : List Int, intsD (ns.map PyData.int) = some ns
  | [] => rfl
  | n :: ns => by
    show (intsD (ns.map PyData.int)).map (n :: ·) = _
    rw [intsD_map ns]
    rfl
theorem boolsD_map : ∀ ns : List Bool, boolsD (ns.map PyData.bool) = some ns
  | [] => rfl
  | n :: ns => by
    show (boolsD (ns.map PyData.bool)).map (n :: ·) = _
    rw [boolsD_map ns]
    rfl
def maxL : List Int → Int
  | [] => 0
  | [x] => x
  | x :: y :: r => max x (maxL (y :: r))
def minL : List Int → Int
  | [] => 0
  | [x] => x
  | x :: y :: r => min x (minL (y :: r))
theorem maxL_spec : ∀ {ns : List Int}, ns ≠ [] → maxL ns ∈ ns ∧ ∀ y ∈ ns, y ≤ maxL ns
  | [], h => absurd rfl h
  | [x], _ => ⟨List.mem_cons_self, fun y hy => by
    have e : y = x := by simpa using hy
    subst e; exact Int.le_refl _⟩
  | x :: y :: r, _ => by
    obtain ⟨h1, h2⟩ := maxL_spec (ns := y :: r) (List.cons_ne_nil _ _)
    have e : maxL (x :: y :: r) = max x (maxL (y :: r)) := rfl
    rw [e]
    refine ⟨?_, fun z hz => ?_⟩
    · by_cases hc : x ≤ maxL (y :: r)
      · rw [Int.max_eq_right hc]; exact List.mem_cons_of_mem _ h1
      · rw [Int.max_eq_left (by omega)]; exact List.mem_cons_self
    · rcases List.mem_cons.mp hz with w | w
      · subst w; exact Int.le_max_left _ _
      · exact Int.le_trans (h2 z w) (Int.le_max_right _ _)
theorem minL_spec : ∀ {ns : List Int}, ns ≠ [] → minL ns ∈ ns ∧ ∀ y ∈ ns, minL ns ≤ y
  | [], h => absurd rfl h
  | [x], _ => ⟨List.mem_cons_self, fun y hy => by
    have e : y = x := by simpa using hy
    subst e; exact Int.le_refl _⟩
  | x :: y :: r, _ => by
    obtain ⟨h1, h2⟩ := minL_spec (ns := y :: r) (List.cons_ne_nil _ _)
    have e : minL (x :: y :: r) = min x (minL (y :: r)) := rfl
    rw [e]
    refine ⟨?_, fun z hz => ?_⟩
    · by_cases hc : x ≤ minL (y :: r)
      · rw [Int.min_eq_left hc]; exact List.mem_cons_self
      · rw [Int.min_eq_right (by omega)]; exact List.mem_cons_of_mem _ h1
    · rcases List.mem_cons.mp hz with w | w
      · subst w; exact Int.min_le_left _ _
      · exact Int.le_trans (Int.min_le_right _ _) (h2 z w)
def maxD : List D → Option D
  | [.list xs] => (intsD xs).bind fun ns => if ns = [] then none else some (.int (maxL ns))
  | [.int i, .int j] => some (.int (max i j))
  | _ => none
def minD : List D → Option D
  | [.list xs] => (intsD xs).bind fun ns => if ns = [] then none else some (.int (minL ns))
  | [.int i, .int j] => some (.int (min i j))
  | _ => none
abbrev rMaxA (K : PySem.W.Frag) : List V → Hp → VK → Prop := fun xs H Q => rMax K xs H Q ∨ (∃ i j, xs = [.int i, .int j] ∧ Q (.int (if j > i then j else i)) H)
abbrev rMinA (K : PySem.W.Frag) : List V → Hp → VK → Prop := fun xs H Q => rMin K xs H Q ∨ (∃ i j, xs = [.int i, .int j] ∧ Q (.int (if j < i then j else i)) H)
theorem call_maxA {X : Cx} (hc : X.calm = true) : CallR X (.builtin "max") (rMaxA X.K) := (cr_max hc).or (call_max2 hc)
theorem call_minA {X : Cx} (hc : X.calm = true) : CallR X (.builtin "min") (rMinA X.K) := (cr_min hc).or (call_min2 hc)
def absD : List D → Option D
  | [.int i] => some (.int (if i < 0 then -i else i))
  | _ => none
theorem d_abs : CallD K (fun xs H Q => ∃ i, xs = [.int i] ∧ Q (.int (if i < 0 then -i else i)) H) absD := fun B H xs ds z Q s hx h q => by
  unfold absD at h
  split at h
  · cases h
    obtain ⟨x, rfl, h1⟩ := dpAll_1 hx
    rw [dp_int h1]
    exact ⟨_, rfl, q _ B H (Grow.refl s) (.int _)⟩
  · cases h
def intD : List D → Option D
  | [.int i] => some (.int i)
  | [.bool k] => some (.int (if k then 1 else 0))
  | _ => none
theorem d_int : CallD K (fun xs H Q => (∃ i, xs = [.int i] ∧ Q (.int i) H) ∨ ∃ k, xs = [.bl k] ∧ Q (.int (if k then 1 else 0)) H) intD := fun B H xs ds z Q s hx h q => by
  unfold intD at h
  split at h
  · cases h
    obtain ⟨x, rfl, h1⟩ := dpAll_1 hx
    rw [dp_int h1]
    exact .inl ⟨_, rfl, q _ B H (Grow.refl s) (.int _)⟩
  · cases h
    obtain ⟨x, rfl, h1⟩ := dpAll_1 hx
    rw [dp_bool h1]
    exact .inr ⟨_, rfl, q _ B H (Grow.refl s) (.int _)⟩
  · cases h
def anyD : List D → Option D
  | [.list xs] => (boolsD xs).map fun bs => .bool (bs.any id)
  | _ => none
def allD : List D → Option D
  | [.list xs] => (boolsD xs).map fun bs => .bool (bs.all id)
  | _ => none
theorem d_any : CallD K (rAny K) anyD := fun B H xs ds z Q s hx h q => by
  unfold anyD at h
  split at h
  · obtain ⟨ns, e1, e2⟩ := Option.map_eq_some_iff.mp h
    subst e2
    obtain ⟨x, rfl, h1⟩ := dpAll_1 hx
    obtain ⟨a, vs, rfl, g1, g2⟩ := dp_list h1
    refine ⟨a, ns, rfl, ?_, q _ B H (Grow.refl s) (.bl _)⟩
    rw [← bools_ok g2 e1]
    exact SqL.of (s _ _ g1)
  · cases h
theorem d_all : CallD K (rAll K) allD := fun B H xs ds z Q s hx h q => by
  unfold allD at h
  split at h
  · obtain ⟨ns, e1, e2⟩ := Option.map_eq_some_iff.mp h
    subst e2
    obtain ⟨x, rfl, h1⟩ := dpAll_1 hx
    obtain ⟨a, vs, rfl, g1, g2⟩ := dp_list h1
    refine ⟨a, ns, rfl, ?_, q _ B H (Grow.refl s) (.bl _)⟩
    rw [← bools_ok g2 e1]
    exact SqL.of (s _ _ g1)
  · cases h
/-- list(xs), list(t): always a new one -/
def sListOf (a : SA) : SL := fun ρ c => (a ρ c).bind fun p => match p.1 with
  | [.list xs] => some (xs, p.2)
  | [.tuple xs] => some (xs, p.2)
  | _ => none
abbrev rListOf (K : PySem.W.Frag) : List V → Hp → VK → Prop := fun xs H Q => ∃ p ys, xs = [.ref p] ∧ (SqL K H p ys ∨ SqT K H p ys) ∧ ∀ l, H l = none → Q (.ref l) (upd H l (.lst ys))
theorem imp_listOf {t : TA} {a : SA} (h : ImpA K t a) : ImpL K (tCB (rListOf K) t) (sListOf a) := fun ad B σ H ρ c ds c' Q R e q => by
  obtain ⟨⟨xs, c1⟩, e1, e2⟩ := Option.bind_eq_some_iff.mp e
  refine h ad B σ H ρ c xs c1 _ R e1 fun vs B1 H1 x dv => ?_
  split at e2
  · rename_i p ys e3
    have e3' : xs = [.list ys] := e3
    subst e3'
    cases e2
    obtain ⟨v, rfl, h1⟩ := dpAll_1 dv
    obtain ⟨a, us, rfl, g1, g2⟩ := dp_list h1
    exact ⟨a, us, rfl, .inl (SqL.of (x.bh _ _ g1)), fun l hl => q l us B1 _ H1 x hl rfl g2⟩
  · rename_i p ys e3
    have e3' : xs = [.tuple ys] := e3
    subst e3'
    cases e2
    obtain ⟨v, rfl, h1⟩ := dpAll_1 dv
    obtain ⟨a, us, rfl, g1, g2⟩ := dp_tuple h1
    exact ⟨a, us, rfl, .inr (SqT.of (x.bh _ _ g1)), fun l hl => q l us B1 _ H1 x hl rfl g2⟩
  · cases e2
def tupleD : List D → Option D
  | [.list xs] => some (.tuple xs)
  | [.tuple xs] => some (.tuple xs)
  | _ => none
theorem d_tuple : CallD K (fun xs H Q => ∃ p ys, xs = [.ref p] ∧ ((SqL K H p ys ∧ ∀ l, H l = none → Q (.ref l) (upd H l (.tup ys))) ∨ (SqT K H p ys ∧ Q (.ref p) H))) tupleD := fun B H xs ds z Q s hx h q => by
  unfold tupleD at h
  split at h
  · cases h
    obtain ⟨x, rfl, h1⟩ := dpAll_1 hx
    obtain ⟨a, vs, rfl, g1, g2⟩ := dp_list h1
    refine ⟨a, vs, rfl, .inl ⟨SqL.of (s _ _ g1), fun p np => ?_⟩⟩
    obtain ⟨g, dd⟩ := Grow.newTup s np g2
    exact q _ _ _ g dd
  · cases h
    obtain ⟨x, rfl, h1⟩ := dpAll_1 hx
    obtain ⟨a, vs, rfl, g1, g2⟩ := dp_tuple h1
    exact ⟨a, vs, rfl, .inr ⟨SqT.of (s _ _ g1), q _ B H (Grow.refl s) (.tup g1 g2)⟩⟩
  · cases h
/-! lists made by display, +, * -/
def sDispL (a : SA) : SL := fun ρ c => (a ρ c).bind fun p => if few p.1.length = true then some p else none
theorem imp_dispL {t : TA} {a : SA} (h : ImpA K t a) : ImpL K (tLst t) (sDispL a) := fun ad B σ H ρ c ds c' Q R e q => by
  obtain ⟨⟨xs, c1⟩, e1, e2⟩ := Option.bind_eq_some_iff.mp e
  split at e2
  · rename_i hz
    cases e2
    exact h ad B σ H ρ c ds c' _ R e1 fun vs B1 H1 x dv => ⟨by rw [dpAll_len dv]; exact few_line hz, fun p np => q p vs B1 _ H1 x np rfl dv⟩
  · cases e2
/-- [a] * n -/
def sRepL (a : SL) (b : SE) : SL := fun ρ c => (a ρ c).bind fun p => (b ρ p.2).bind fun q => match q.1 with
  | .int k => if few p.1.length = true ∧ p.1.length * k.toNat ≤ 1000000 ∧ -1000000 ≤ k ∧ k ≤ 1000000 then some ((List.replicate k.toNat p.1).flatten, q.2) else none
  | _ => none
theorem imp_repL {t u : TE} {a : SL} {b : SE} (h : ImpL K t a) (hb : ImpE K u b) : ImpL K (tOp (rMulA K) t u) (sRepL a b) := fun ad B σ H ρ c ds c' Q R e q => by
  obtain ⟨⟨xs, c1⟩, e1, e2⟩ := Option.bind_eq_some_iff.mp e
  obtain ⟨⟨kd, c2⟩, e3, e4⟩ := Option.bind_eq_some_iff.mp e2
  cases kd with
  | int k =>
    have e4' : (if few xs.length = true ∧ xs.length * k.toNat ≤ 1000000 ∧ -1000000 ≤ k ∧ k ≤ 1000000 then some ((List.replicate k.toNat xs).flatten, c2) else none) = some (ds, c') := e4
    split at e4'
    · rename_i hz
      cases e4'
      obtain ⟨z1, z2, z3, z4⟩ := hz
      refine h ad B σ H ρ c xs c1 _ R e1 fun p vs B1 H1' H1 x np eH dv => ?_
      subst eH
      have R1 := R.fw x
      have g := Grow.new (o := .lst vs) x.bh np
      have x1 := R.trans x (g.fw x.cell)
      refine hb ad _ σ _ ρ c1 (.int k) _ _ (R.fw x1) e3 fun w B2 H2 y dw => ?_
      have nad : ad ≠ some p := fun e => by rw [x.cell p e] at np; cases np
      have hp : H2 p = some (.lst vs) := y.keep p _ nad upd_same
      refine .inr (.inl ⟨p, k, vs, rfl, dp_int dw, hp, by omega, by omega, by rw [dpAll_len dv, sizeLine_eq]; omega, fun l nl => ?_⟩)
      exact q l _ B2 _ H2 (R.trans x1 y) nl rfl (dpAll_rep (dpAll_mono (g.bb.trans y.bb) _ _ dv) _)
    · cases e4'
  | _ => cases e4
end
end DL
/-! DLi: enumerate and zip of lists and tuples in any mix. -/
namespace DL
open PySem PySem.Spec L2
open AutoSeq1 (wpAny_loadPart')
/-- a list, or (t) a tuple -/
def SqK (t : Bool) (K : PySem.W.Frag) (H : Hp) (a : Addr) (xs : List V) : Prop := if t = true then SqT K H a xs else SqL K H a xs
def itIs (t : Bool) (h : Heap) (it a : Addr) (i : Nat) : Prop := if t = true then h.IsTupleIter it a i else h.IsListIter it a i
def isSq (t : Bool) (h : Heap) (a : Addr) (its : Array Value) : Prop := if t = true then h.IsTuple a its else h.IsList a its
def itObj (t : Bool) (a : Addr) : Obj := if t = true then { cls := .type "tuple_iterator", data := .fields #[.ref a, .int 0 0] } else { cls := .type "list_iterator", data := .fields #[.ref a, .int 0 0] }
theorem drawsB (t : Bool) {prog : Program} {w : World} {A : Around} (hh : A.handled = none) (it a : Addr) (hne : a ≠ it) (items : Array Value) :
    Draws prog w A it [it, a] items.size (fun i v => items[i]? = some v) (fun i h => itIs t h it a i ∧ isSq t h a items) := by
  cases t with
  | true => exact Draws.tuple hh it a hne items
  | false => exact Draws.list hh it a hne items
theorem beginsB (t : Bool) (a : Addr) (items : Array Value) : Begins (.ref a) (itObj t a) fun h => isSq t h a items := by
  cases t with
  | true => exact begins_tuple a items
  | false => exact begins_list a items
theorem itIs_of {t : Bool} {h : Heap} {it a : Addr} (e : h.get? it = some (itObj t a)) : itIs t h it a 0 := by
  cases t with
  | true => exact ⟨_, e, rfl, rfl⟩
  | false => exact ⟨_, e, rfl, rfl⟩
theorem itIs_obj {t : Bool} {h : Heap} {it a : Addr} {i : Nat} (e : itIs t h it a i) : ∃ o, h.get? it = some o ∧ ∀ v, o.data ≠ .cell v := by
  cases t with
  | true => obtain ⟨o, e1, _, d⟩ := (show h.IsTupleIter it a i from e); exact ⟨o, e1, fun v q => by rw [d] at q; cases q⟩
  | false => obtain ⟨o, e1, _, d⟩ := (show h.IsListIter it a i from e); exact ⟨o, e1, fun v q => by rw [d] at q; cases q⟩
theorem itIs_at {t : Bool} {h h' : Heap} {it a : Addr} {i : Nat} (e : itIs t h it a i) (k : ∀ o, h.get? it = some o → h'.get? it = some o) : itIs t h' it a i := by
  cases t with
  | true => exact (show h.IsTupleIter it a i from e).at k
  | false => exact (show h.IsListIter it a i from e).at k
theorem sqK_inv {t : Bool} {X : Cx} {pins : List (Addr × Obj)} {σ : L2.St} {H : Hp} {s : Shared} {a : Addr} {xs : List V} (I : L2.Inv X pins σ H s) (h : SqK t X.K H a xs) : ∃ its : List Value, Vals xs its ∧ isSq t s.heap a its.toArray ∧ ∃ o, s.heap.get? a = some o := by
  cases t with
  | true =>
    obtain ⟨its, r, p, _⟩ := I.tuple (show SqT X.K H a xs from h)
    obtain ⟨o, ho, _⟩ := id p
    exact ⟨its, r, p, o, ho⟩
  | false =>
    obtain ⟨its, r, p, _⟩ := I.list (show SqL X.K H a xs from h)
    obtain ⟨o, n, ho, _⟩ := id p
    exact ⟨its, r, p.isList, o, ho⟩
theorem sqK_inj {t : Bool} {X : Cx} {pins : List (Addr × Obj)} {σ : L2.St} {H : Hp} {s : Shared} {a : Addr} {xs ys : List V} (I : L2.Inv X pins σ H s) (h : SqK t X.K H a xs) (h' : SqK t X.K H a ys) : xs = ys := by
  cases t with
  | true => exact I.tuple_inj (show SqT X.K H a xs from h) (show SqT X.K H a ys from h')
  | false => exact I.list_inj (show SqL X.K H a xs from h) (show SqL X.K H a ys from h')
/-! ### enumerate -/
set_option maxHeartbeats 4000000 in
theorem meets_enum_new1 {v : Value} {o : Obj} {H : Heap → Prop} (B : Begins v o H) :
    Meets (Builtin.«enumerate.__new__» ⟨[.type "enumerate", v], []⟩) (fun _ R s => H s.heap ∧
      R (.ok (.ret (.ref (s.heap.push o).objs.size))) { s with heap := (s.heap.push o).push { cls := .type "enumerate", data := .fields #[.none, .bool false, .ref s.heap.objs.size, rawInt 0, .none, .none] } }) :=
  .of_wp fun prog w A R s h => by
    obtain ⟨hp, g, d, tk, os⟩ := s
    obtain ⟨h1, h⟩ := h
    have hsub := sub_enumerate
    have q1 : ∀ {A' : Around} {E : Value → Shared → Prop} {Q : Value → Shared → Prop}, Q (.ref hp.objs.size) ⟨(hp.push o), g, d, tk, os⟩ → wpAny (model prog w) A' (pyIter v) Q E ⟨hp, g, d, tk, os⟩ :=
      fun q => B.iter prog w _ _ ⟨hp, g, d, tk, os⟩ _ h1 q
    wp_walk using q1
    refine wpAny_stack_any fun st => wpAny_pure ?_
    split
    · rename_i c _ _ _ _ _
      cases (c == Value.type "enumerate")
      · wp_walk using q1
        exact ⟨_, rfl, h⟩
      · wp_walk using q1
        exact ⟨_, rfl, h⟩
    · wp_walk using q1
      exact ⟨_, rfl, h⟩
theorem enum_begins1 {prog : Program} {w : World} {A : Around} {E : Value → Shared → Prop} {s : Shared} {v : Value} {o : Obj} {H : Heap → Prop} {Q : Value → Shared → Prop} (B : Begins v o H) (h1 : H s.heap)
    (h : ∀ h', IsEnum h' (s.heap.objs.size + 1) s.heap.objs.size 0 .none → h'.get? s.heap.objs.size = some o → h'.objs.size = s.heap.objs.size + 2 →
      (∀ b o, s.heap.get? b = some o → h'.get? b = some o) → Q (.ref (s.heap.objs.size + 1)) { s with heap := h' }) :
    wpAny (model prog w) A (call (.type "enumerate") [v]) Q E s := by
  refine callType_new F.called_enumerate (by decide) (F.typeCall_enumerate_1 _) (F.newCall_enumerate_1 _) (fun obj => F.args_object_init_2 obj _) F.entry_enumerate_new
    (meets_enum_new1 B) ⟨h1, ?_⟩
  have hz : (s.heap.push o).objs.size = s.heap.objs.size + 1 := Heap.size_push ..
  show _ ∧ _
  rw [hz]
  have he : IsEnum ((s.heap.push o).push { cls := .type "enumerate", data := .fields #[.none, .bool false, .ref s.heap.objs.size, rawInt 0, .none, .none] }) (s.heap.objs.size + 1) s.heap.objs.size 0 .none := by
    have := Heap.get?_push_size (s.heap.push o) (o := { cls := .type "enumerate", data := .fields #[.none, .bool false, .ref s.heap.objs.size, rawInt 0, .none, .none] }) rfl
    rw [hz] at this; exact this
  refine ⟨⟨_, he, rfl⟩, h _ he (Heap.get?_push_of_some _ (Heap.get?_push_size _ B.free)) (by rw [Heap.size_push, hz]) fun b o x => Heap.get?_push_of_some _ (Heap.get?_push_of_some _ x)⟩
def IteK (t : Bool) (K : PySem.W.Frag) (a : Addr) : It :=
  ⟨fun i H => ∃ (xs : List V) (x : V), SqK t K H a xs ∧ xs[i]? = some x, fun i H v H' => ∃ T x, v = .ref T ∧ H T = none ∧ H' = upd H T (.tup [.int (i : Nat), x]) ∧ ∀ xs, SqK t K H a xs → xs[i]? = some x, fun i H => ∃ xs : List V, SqK t K H a xs ∧ xs.length = i⟩
theorem turn_enumK (t : Bool) {P : Program} {w : World} {K : PySem.W.Frag} {elts : List Expr} {kk : Nat} {tpos : Pos} (a e it : Addr) (hea : e ≠ a) (hai : a ≠ it) :
    Turn P w K (.Tuple elts kk tpos) (IteK t K a) [e, it] e (fun i h => (∃ old, IsEnum h e it ((i : Nat) : Int) old) ∧ itIs t h it a i ∧ e ≠ it) where
  mem := by simp
  obj := fun i h st b hb => by
    obtain ⟨⟨old, he⟩, hi, _⟩ := st
    have e' : b = e ∨ b = it := by simpa using hb
    rcases e' with z | z
    · rw [z]; exact ⟨_, he, fun v q => nomatch q⟩
    · rw [z]; exact itIs_obj hi
  keep := fun i h h' st k => let ⟨⟨old, he⟩, hi, hne⟩ := st; ⟨⟨old, k e (by simp) _ he⟩, itIs_at hi fun o q => k it (by simp) o q, hne⟩
  item := by
    intro X hP hw hK hc i pins s σ H E I hf st hg
    subst hP hw hK
    obtain ⟨⟨old, he⟩, hit, hne⟩ := st
    obtain ⟨xs, x, hq, hx⟩ := hg
    obtain ⟨its, rv, p, _⟩ := sqK_inv I hq
    obtain ⟨u, hu, ru⟩ := rv.get hx
    have hel : e < s.heap.objs.size := Heap.lt_size he
    have hil : it < s.heap.objs.size := by obtain ⟨_, q, _⟩ := itIs_obj hit; exact Heap.lt_size q
    have hlt : i < its.toArray.size := by rw [List.size_toArray]; exact (List.getElem?_eq_some_iff.mp hu).1
    refine wpAny_pyNext_enum_itemC (drawsB t (A := X.A.in1) (I.ok.hd hc) it a hai its.toArray) he ⟨hit, p⟩ hlt hne (by simp [hne, hea]) fun u' h' tk hu' ho st' hT hsz hk => ?_
    have eu : u' = u := by
      have h1 : its.toArray[i]? = some u' := hu'
      have h2 : its.toArray[i]? = some u := by simpa using hu
      rw [h1] at h2; exact Option.some.inj h2
    subst eu
    refine ⟨_, rfl, wpAny_letOwnedTupleGo_enum (s := { s with heap := h', toks := tk + 1 }) ho fun h'' he' sb => ?_⟩
    have hT2 : h''.get? s.heap.objs.size = some { cls := .type "tuple", data := .seq #[.int i tk, u'] } := (sb.2 _ (Nat.ne_of_gt hel)).trans hT
    have new : ObjOk X.prog X.w (upd H s.heap.objs.size (.tup [.int (i : Nat), x])) h'' s.heap.objs.size (.tup [.int (i : Nat), x]) :=
      ⟨by show 2 ≤ sizeLine; decide, [.int i tk, u'], .cons ⟨_, rfl⟩ (.cons ru .nil), ⟨_, hT2, rfl, _, rfl⟩⟩
    have I1 : L2.Inv X pins σ (upd H s.heap.objs.size (.tup [.int (i : Nat), x])) { s with heap := h'', toks := tk + 1 } :=
      I.turnedNew (ch := [e, it]) (fun b ob hb q => (sb.2 b (fun z => hb (by simp [z]))).trans (hk b ob (fun z => hb (by simp [z])) (fun z => hb (by simp [z])) q)) hf (Nat.le_refl _) new
    refine ⟨.ref s.heap.objs.size, _, I1, rfl, ⟨_, x, rfl, I.hok.fresh (Nat.le_refl _), rfl, fun ys hy => by rw [sqK_inj I hy hq]; exact hx⟩, ⟨⟨u', ?_⟩, itIs_at st'.1 fun o q => (sb.2 it (Ne.symm hne)).trans q, hne⟩, fun b hb => ?_⟩
    · have e1 : ((i + 1 : Nat) : Int) = (i : Int) + 1 := by omega
      rw [e1]; exact he'
    · have hb' : b < s.heap.objs.size := by
        have e' : b = e ∨ b = it := by simpa using hb
        rcases e' with z | z
        · rw [z]; exact hel
        · rw [z]; exact hil
      rw [upd_ne (Nat.ne_of_lt hb')]
      exact (hf b hb).1
  done := by
    intro X hP hw hK hc i pins s σ H E I hf st hg
    subst hP hw hK
    obtain ⟨⟨old, he⟩, hit, hne⟩ := st
    obtain ⟨xs, hq, hx⟩ := hg
    obtain ⟨its, rv, p, _⟩ := sqK_inv I hq
    obtain ⟨f0, f1, f2, f3, f4, f5⟩ := hf it (by simp)
    have hl := rv.length
    have ei : i = its.toArray.size := by rw [List.size_toArray]; omega
    subst ei
    exact wpAny_pyNext_enum_endD (drawsB t (A := X.A.in1) (I.ok.hd hc) it a hai its.toArray) he ⟨hit, p⟩ fun h' eb => ⟨rfl, I.turned (t' := s.toks) (fun b o hb q => eb b o hb q) f0 f1 f3 f4 f5⟩
  self := fun A i s Q E st h => let ⟨⟨_, he⟩, _⟩ := st; wpAny_pyIter_enum he h
def iEnumK (K : PySem.W.Frag) (ta : TA) : TI := fun σ H R => ta σ H fun vs H1 => ∃ (t : Bool) (a : Addr) (xs : List V), vs = [.ref a] ∧ SqK t K H1 a xs ∧ R (IteK t K a) H1
theorem pi_enumK {X : Cx} {e : Expr} {ta : TA} {p pos tpos : Pos} {elts : List Expr} {kk : Nat} (hg : Gl X "enumerate") (hm : X.mg "enumerate" = none) (ha : PA X [e] ta) (hs : starEach [e] X.env = [(false, eval e X.env)] := by rfl) :
    PI X (.Tuple elts kk tpos) (.Call (.Name "enumerate" p) [e] [] pos) (iEnumK X.K ta) := by
  refine ⟨fun pins s σ H R I h => ?_⟩
  refine PyProof.Rows.Call_ (ld_blt I hg hm PyProof.Rows.boot_enumerate (PyProof.Rows.callWith_type1 (thn (ha.run pos pins s σ H _ I h) fun us s1 ⟨vs, H1, I1, r1, q1⟩ => ?_) hs rfl))
  obtain ⟨t, a, xs, ex, hq, q⟩ := q1
  subst ex
  cases r1 with
  | cons r rr =>
    cases rr
    cases r
    obtain ⟨its, rv, p', oo, hoo⟩ := sqK_inv I1 hq
    have hlt : a < s1.heap.objs.size := Heap.lt_size hoo
    refine enum_begins1 (beginsB t a its.toArray) p' fun h' he hit hsz hk => wpAny_pyIter_enum he ?_
    have I2 : L2.Inv X pins σ H1 { s1 with heap := h' } := I1.kept (t' := s1.toks) hk
    refine ⟨s1.heap.objs.size + 1, [s1.heap.objs.size + 1, s1.heap.objs.size], _, _, H1, rfl, I2, turn_enumK t a (s1.heap.objs.size + 1) s1.heap.objs.size (Nat.ne_of_gt (Nat.lt_succ_of_lt hlt)) (Nat.ne_of_lt hlt), ⟨⟨.none, he⟩, itIs_of hit, Nat.succ_ne_self _⟩, fun b hb => ?_, q⟩
    have e' : b = s1.heap.objs.size + 1 ∨ b = s1.heap.objs.size := by simpa using hb
    have hle : s1.heap.objs.size ≤ b := by
      rcases e' with z | z
      · rw [z]; exact Nat.le_add_right _ _
      · rw [z]; exact Nat.le_refl _
    exact I1.fpOk hle (I1.hok.fresh hle)

/-! ### zip -/
def ItzK (t u : Bool) (K : PySem.W.Frag) (a b : Addr) : It :=
  ⟨fun i H => ∃ (xs ys : List V) (x y : V), SqK t K H a xs ∧ SqK u K H b ys ∧ xs[i]? = some x ∧ ys[i]? = some y,
    fun i H v H' => ∃ T x y, v = .ref T ∧ H T = none ∧ H' = upd H T (.tup [x, y]) ∧ (∀ xs, SqK t K H a xs → xs[i]? = some x) ∧ ∀ ys, SqK u K H b ys → ys[i]? = some y,
    fun i H => ∃ xs ys : List V, SqK t K H a xs ∧ SqK u K H b ys ∧ i ≤ xs.length ∧ i ≤ ys.length ∧ (i = xs.length ∨ i = ys.length)⟩
theorem turn_zipK (t u : Bool) {P : Program} {w : World} {K : PySem.W.Frag} {elts : List Expr} {kk : Nat} {tpos : Pos} {a b z TI TO i1 i2 : Addr} (S : ZipSep2 z TI TO i1 i2 [i1, a] [i2, b]) (hai : a ≠ i1) (hbi : b ≠ i2) :
    Turn P w K (.Tuple elts kk tpos) (ItzK t u K a b) [z, TI, TO, i1, i2] z (fun i h => IsZip h z TI TO .none ∧ IsTupOf2 h TI (.ref i1) (.ref i2) ∧ (∃ x y, IsTupOf2 h TO x y) ∧ itIs t h i1 a i ∧ itIs u h i2 b i) where
  mem := by simp
  obj := fun i h st c hc => by
    obtain ⟨hz, hTI, ⟨x, y, hTO⟩, h1, h2⟩ := st
    have e' : c = z ∨ c = TI ∨ c = TO ∨ c = i1 ∨ c = i2 := by simpa using hc
    rcases e' with q | q | q | q | q
    · rw [q]; exact ⟨_, hz, fun v q => nomatch q⟩
    · rw [q]; exact ⟨_, hTI, fun v q => nomatch q⟩
    · rw [q]; exact ⟨_, hTO, fun v q => nomatch q⟩
    · rw [q]; exact itIs_obj h1
    · rw [q]; exact itIs_obj h2
  keep := fun i h h' st k => by
    obtain ⟨hz, hTI, ⟨x, y, hTO⟩, h1, h2⟩ := st
    exact ⟨k z (by simp) _ hz, k TI (by simp) _ hTI, ⟨x, y, k TO (by simp) _ hTO⟩, itIs_at h1 fun o q => k i1 (by simp) o q, itIs_at h2 fun o q => k i2 (by simp) o q⟩
  item := by
    intro X hP hw hK hc i pins s σ H E I hf st hg
    subst hP hw hK
    obtain ⟨hz, hTI, ⟨x0, y0, hTO⟩, h1, h2⟩ := st
    obtain ⟨xs, ys, x, y, hqx, hqy, hx, hy⟩ := hg
    obtain ⟨its, rv, p, _⟩ := sqK_inv I hqx
    obtain ⟨its2, rv2, p2, _⟩ := sqK_inv I hqy
    obtain ⟨v1, hu, ru⟩ := rv.get hx
    obtain ⟨v2, hu2, ru2⟩ := rv2.get hy
    have hzl : z < s.heap.objs.size := Heap.lt_size hz
    have lt1 : i < its.toArray.size := by rw [List.size_toArray]; exact (List.getElem?_eq_some_iff.mp hu).1
    have lt2 : i < its2.toArray.size := by rw [List.size_toArray]; exact (List.getElem?_eq_some_iff.mp hu2).1
    refine wpAny_pyNext_zipD2_item S (drawsB t (A := X.A.in1) (I.ok.hd hc) i1 a hai its.toArray) (drawsB u (A := X.A.in1) (I.ok.hd hc) i2 b hbi its2.toArray) hz hTI hTO ⟨h1, p⟩ ⟨h2, p2⟩ lt1 lt2 fun w1 w2 h' tk e1 e2 z' TO' h1' h2' hT hsz hk => ?_
    have ew1 : w1 = v1 := by
      have k1 : its.toArray[i]? = some w1 := e1
      have k2 : its.toArray[i]? = some v1 := by simpa using hu
      rw [k1] at k2; exact Option.some.inj k2
    have ew2 : w2 = v2 := by
      have k1 : its2.toArray[i]? = some w2 := e2
      have k2 : its2.toArray[i]? = some v2 := by simpa using hu2
      rw [k1] at k2; exact Option.some.inj k2
    subst ew1 ew2
    refine ⟨_, rfl, wpAny_letOwnedTupleGo_zip (s := { s with heap := h', toks := tk }) z' fun h'' z'' sb => ?_⟩
    have hT2 : h''.get? s.heap.objs.size = some { cls := .type "tuple", data := .seq #[w1, w2] } := (sb.2 _ (Nat.ne_of_gt hzl)).trans hT
    have new : ObjOk X.prog X.w (upd H s.heap.objs.size (.tup [x, y])) h'' s.heap.objs.size (.tup [x, y]) :=
      ⟨by show 2 ≤ sizeLine; decide, [w1, w2], .cons ru (.cons ru2 .nil), ⟨_, hT2, rfl, _, rfl⟩⟩
    have I1 : L2.Inv X pins σ (upd H s.heap.objs.size (.tup [x, y])) { s with heap := h'', toks := tk } :=
      I.turnedNew (t' := tk) (ch := [z, TI, TO, i1, i2]) (fun c o hb q => (sb.2 c (fun q' => hb (by simp [q']))).trans (hk c o (fun q' => hb (by simp [q'])) (fun q' => hb (by simp [q'])) (fun q' => hb (by simp [q'])) (fun q' => hb (by simp [q'])) q)) hf (Nat.le_refl _) new
    refine ⟨.ref s.heap.objs.size, _, I1, rfl, ⟨_, x, y, rfl, I.hok.fresh (Nat.le_refl _), rfl, fun l hl => by rw [sqK_inj I hl hqx]; exact hx, fun l hl => by rw [sqK_inj I hl hqy]; exact hy⟩, ⟨z'', ?_, ⟨w1, w2, ?_⟩, ?_, ?_⟩, fun c hcm => ?_⟩
    · exact (sb.2 _ S.TIz).trans (hk _ _ S.TIz S.TITO S.TIi1 S.TIi2 hTI)
    · exact (sb.2 _ S.TOz).trans TO'
    · exact itIs_at h1'.1 fun o q => (sb.2 _ (Ne.symm S.zi1)).trans q
    · exact itIs_at h2'.1 fun o q => (sb.2 _ (Ne.symm S.zi2)).trans q
    · have hlt : c < s.heap.objs.size := by
        have e' : c = z ∨ c = TI ∨ c = TO ∨ c = i1 ∨ c = i2 := by simpa using hcm
        rcases e' with q | q | q | q | q
        · rw [q]; exact hzl
        · rw [q]; exact Heap.lt_size hTI
        · rw [q]; exact Heap.lt_size hTO
        · rw [q]; obtain ⟨_, e1, _⟩ := itIs_obj h1; exact Heap.lt_size e1
        · rw [q]; obtain ⟨_, e2, _⟩ := itIs_obj h2; exact Heap.lt_size e2
      rw [upd_ne (Nat.ne_of_lt hlt)]
      exact (hf c hcm).1
  done := by
    intro X hP hw hK hc i pins s σ H E I hf st hg
    subst hP hw hK
    obtain ⟨hz, hTI, ⟨x0, y0, hTO⟩, h1, h2⟩ := st
    obtain ⟨xs, ys, hqx, hqy, hle1, hle2, hend⟩ := hg
    obtain ⟨its, rv, p, _⟩ := sqK_inv I hqx
    obtain ⟨its2, rv2, p2, _⟩ := sqK_inv I hqy
    have l1 := rv.length
    have l2 := rv2.length
    exact wpAny_pyNext_zipD2_end S (drawsB t (A := X.A.in1) (I.ok.hd hc) i1 a hai its.toArray) (drawsB u (A := X.A.in1) (I.ok.hd hc) i2 b hbi its2.toArray) hz hTI hTO ⟨h1, p⟩ ⟨h2, p2⟩
      (by rw [List.size_toArray]; omega) (by rw [List.size_toArray]; omega) (by rw [List.size_toArray, List.size_toArray]; omega) fun h' tk hk => ⟨rfl, I.turnedL (t' := tk) (ch := [z, TI, TO, i1, i2]) (fun c o hb q =>
      hk c o (fun q' => hb (by simp [q'])) (fun q' => hb (by simp [q'])) (fun q' => hb (by simp [q'])) (fun q' => hb (by simp [q'])) q) hf⟩
  self := fun A i s Q E st h => wpAny_pyIter_zip st.1 h
def iZipK (K : PySem.W.Frag) (ta : TA) : TI := fun σ H R => ta σ H fun vs H1 => ∃ (t u : Bool) (a b : Addr) (xs ys : List V), vs = [.ref a, .ref b] ∧ SqK t K H1 a xs ∧ SqK u K H1 b ys ∧ R (ItzK t u K a b) H1
theorem pi_zipK {X : Cx} {e e2 : Expr} {ta : TA} {p pos tpos : Pos} {elts : List Expr} {kk : Nat} (hg : Gl X "zip") (hm : X.mg "zip" = none) (ha : PA X [e, e2] ta)
    (hs : starEach [e, e2] X.env = (false, eval e X.env) :: starEach [e2] X.env := by rfl) (hpl : (backTo pos (starEach [e2] X.env)).any (·.1) = false := by rfl) :
    PI X (.Tuple elts kk tpos) (.Call (.Name "zip" p) [e, e2] [] pos) (iZipK X.K ta) := by
  refine ⟨fun pins s σ H R I h => ?_⟩
  refine PyProof.Rows.Call_ (ld_blt I hg hm PyProof.Rows.boot_zip (PyProof.Rows.callWith_type1 (thn (ha.run pos pins s σ H _ I h) fun us s1 ⟨vs, H1, I1, r1, q1⟩ => ?_) hs hpl))
  obtain ⟨t, u, a, b, xs, ys, ex, hqx, hqy, q⟩ := q1
  subst ex
  cases r1 with
  | cons r rr =>
    cases rr with
    | cons r' rr =>
      cases rr
      cases r
      cases r'
      obtain ⟨its, rv, p1, oa, hoa⟩ := sqK_inv I1 hqx
      obtain ⟨its2, rv2, p2, ob, hob⟩ := sqK_inv I1 hqy
      have la : a < s1.heap.objs.size := Heap.lt_size hoa
      have lb : b < s1.heap.objs.size := Heap.lt_size hob
      refine zip_begins2 (beginsB t a its.toArray) (beginsB u b its2.toArray) p1 p2 fun h' hz hTI hTO h1 h2 hsz hk => wpAny_pyIter_zip hz ?_
      have I2 : L2.Inv X pins σ H1 { s1 with heap := h' } := I1.kept (t' := s1.toks) hk
      generalize hN : s1.heap.objs.size = N at *
      have nla : ∀ k, a ≠ N + k := fun k e => by rw [e] at la; exact absurd la (Nat.not_lt.mpr (Nat.le_add_right _ _))
      have nlb : ∀ k, b ≠ N + k := fun k e => by rw [e] at lb; exact absurd lb (Nat.not_lt.mpr (Nat.le_add_right _ _))
      have nk : ∀ k j : Nat, k ≠ j → (N + k : Nat) ≠ N + j := fun k j h e => h (Nat.add_left_cancel e)
      have S : ZipSep2 (N + 4) (N + 2) (N + 3) N (N + 1) [N, a] [N + 1, b] := by
        refine ⟨nk 2 4 (by decide), nk 3 4 (by decide), nk 2 3 (by decide), nk 2 0 (by decide), List.mem_cons_self, ?_, ?_, nk 2 1 (by decide), List.mem_cons_self, ?_, ?_, ?_, ?_⟩
        · intro hm
          rcases List.mem_cons.mp hm with e | hm
          · exact nk 4 0 (by decide) e
          · exact nla 4 (List.mem_singleton.mp hm).symm
        · intro hm
          rcases List.mem_cons.mp hm with e | hm
          · exact nk 3 0 (by decide) e
          · exact nla 3 (List.mem_singleton.mp hm).symm
        · intro hm
          rcases List.mem_cons.mp hm with e | hm
          · exact nk 4 1 (by decide) e
          · exact nlb 4 (List.mem_singleton.mp hm).symm
        · intro hm
          rcases List.mem_cons.mp hm with e | hm
          · exact nk 3 1 (by decide) e
          · exact nlb 3 (List.mem_singleton.mp hm).symm
        · intro hm
          rcases List.mem_cons.mp hm with e | hm
          · exact nk 0 1 (by decide) e
          · exact nlb 0 (List.mem_singleton.mp hm).symm
        · intro hm
          rcases List.mem_cons.mp hm with e | hm
          · exact nk 1 0 (by decide) e
          · exact nla 1 (List.mem_singleton.mp hm).symm
      refine ⟨N + 4, [N + 4, N + 2, N + 3, N, N + 1], _, _, H1, rfl, I2, turn_zipK t u S (nla 0) (nlb 1), ⟨hz, hTI, ⟨_, _, hTO⟩, itIs_of h1, itIs_of h2⟩, fun c hcm => ?_, q⟩
      have e' : c = N + 4 ∨ c = N + 2 ∨ c = N + 3 ∨ c = N ∨ c = N + 1 := by simpa using hcm
      have hle : N ≤ c := by
        rcases e' with z | z | z | z | z
        · rw [z]; exact Nat.le_add_right _ _
        · rw [z]; exact Nat.le_add_right _ _
        · rw [z]; exact Nat.le_add_right _ _
        · rw [z]; exact Nat.le_refl _
        · rw [z]; exact Nat.le_add_right _ _
      rw [← hN] at hle
      exact I1.fpOk hle (I1.hok.fresh hle)
section
variable {K : PySem.W.Frag}
/-! ### on data -/
def seqD : D → Option (List D)
  | .list xs => some xs
  | .tuple xs => some xs
  | _ => none
theorem seqD_ok {B H : Hp} {v : V} {d : D} {xs : List D} (s : Same B H) (h : Dp K B v d) (e : seqD d = some xs) : ∃ (t : Bool) (a : Addr) (vs : List V), v = .ref a ∧ DpAll K B vs xs ∧ ∀ H2, Same B H2 → SqK t K H2 a vs := by
  cases h with
  | @lst a vs ds h1 h2 => cases e; exact ⟨false, a, vs, rfl, h2, fun H2 m => SqL.of (m _ _ h1)⟩
  | @tup a vs ds h1 h2 => cases e; exact ⟨true, a, vs, rfl, h2, fun H2 m => SqT.of (m _ _ h1)⟩
  | _ => cases e
def enumL (xs : List D) : List D := (xs.zipIdx).map fun p => .tuple [.int (p.2 : Nat), p.1]
def sEnum (a : SE) : SI := fun ρ c => (a ρ c).bind fun p => (seqD p.1).bind fun xs => some (enumL xs, p.2)
theorem imp_enum {t : TE} {a : SE} (h : ImpE K t a) : ImpI K (iEnumK K (tCons t tNil)) (sEnum a) := fun ad B σ H ρ c xs c' Q R e q => by
  obtain ⟨⟨d, c1⟩, e1, e2⟩ := Option.bind_eq_some_iff.mp e
  obtain ⟨ys, e3, e4⟩ := Option.bind_eq_some_iff.mp e2
  cases e4
  refine h ad B σ H ρ c d _ _ R e1 fun v B' H' x dv => ?_
  obtain ⟨t, a, vs, rfl, s1, s2⟩ := seqD_ok x.bh dv e3
  refine ⟨t, a, vs, rfl, s2 _ x.bh, q _ B' H' x fun B2 H2 m1 m2 => ?_⟩
  have sq := s2 H2 (m1.trans m2)
  have hl : (enumL ys).length = ys.length := by unfold enumL; rw [List.length_map, List.length_zipIdx]
  refine ⟨⟨vs, sq, by rw [hl, dpAll_len s1]⟩, fun i d hd => ?_⟩
  unfold enumL at hd
  rw [List.getElem?_map, List.getElem?_zipIdx] at hd
  obtain ⟨p, e5, e6⟩ := Option.map_eq_some_iff.mp hd
  obtain ⟨y, e7, e8⟩ := Option.map_eq_some_iff.mp e5
  subst e8
  subst e6
  obtain ⟨w, g1, g2⟩ := dpAll_get s1 e7
  refine ⟨⟨vs, w, sq, g1⟩, fun z H3 hy => ?_⟩
  obtain ⟨T, x', rfl, nT, rfl, f⟩ := hy
  have ex := (f vs sq).symm.trans g1
  cases ex
  obtain ⟨g, dd⟩ := Grow.newTup (K := K) (vs := [.int (i : Nat), w]) (ds := [.int ((0 + i : Nat) : Int), y]) m2 nT (.cons (by rw [Nat.zero_add]; exact .int _) (.cons (dp_mono m1 _ _ g2) .nil))
  exact ⟨_, g, dd⟩
def zipL : List D → List D → List D
  | x :: xs, y :: ys => .tuple [x, y] :: zipL xs ys
  | _, _ => []
theorem zipL_get : ∀ {xs ys : List D} {i : Nat} {d : D}, (zipL xs ys)[i]? = some d → ∃ x y, xs[i]? = some x ∧ ys[i]? = some y ∧ d = .tuple [x, y]
  | x :: xs, y :: ys, 0, d, h => by
    have h' : some (PyData.tuple [x, y]) = some d := h
    cases h'
    exact ⟨x, y, rfl, rfl, rfl⟩
  | x :: xs, y :: ys, i + 1, d, h => zipL_get (xs := xs) (ys := ys) (i := i) h
  | [], _, _, _, h => by simp [zipL] at h
  | _ :: _, [], _, _, h => by simp [zipL] at h
theorem zipL_len : ∀ xs ys : List D, (zipL xs ys).length = min xs.length ys.length
  | x :: xs, y :: ys => by
    show (zipL xs ys).length + 1 = min (xs.length + 1) (ys.length + 1)
    rw [zipL_len xs ys]; omega
  | [], ys => by simp [zipL]
  | _ :: _, [] => by simp [zipL]
def sZip (a b : SE) : SI := fun ρ c => (a ρ c).bind fun p => (b ρ p.2).bind fun q => (seqD p.1).bind fun xs => (seqD q.1).bind fun ys => some (zipL xs ys, q.2)
theorem imp_zip {t u : TE} {a b : SE} (h : ImpE K t a) (h2 : ImpE K u b) : ImpI K (iZipK K (tCons t (tCons u tNil))) (sZip a b) := fun ad B σ H ρ c xs c' Q R e q => by
  obtain ⟨⟨d, c1⟩, e1, e2⟩ := Option.bind_eq_some_iff.mp e
  obtain ⟨⟨d2, c2⟩, e3, e4⟩ := Option.bind_eq_some_iff.mp e2
  obtain ⟨ys, e5, e6⟩ := Option.bind_eq_some_iff.mp e4
  obtain ⟨zs, e7, e8⟩ := Option.bind_eq_some_iff.mp e6
  cases e8
  refine h ad B σ H ρ c d _ _ R e1 fun v B1 H1 x dv => ?_
  refine h2 ad B1 σ H1 ρ c1 d2 _ _ (R.fw x) e3 fun v2 B' H' y dv2 => ?_
  obtain ⟨t, a, vs, rfl, s1, s2⟩ := seqD_ok x.bh dv e5
  obtain ⟨u, b, ws, rfl, s3, s4⟩ := seqD_ok y.bh dv2 e7
  refine ⟨t, u, a, b, vs, ws, rfl, s2 _ (y.bb.trans y.bh), s4 _ y.bh, q _ B' H' (R.trans x y) fun B2 H2 m1 m2 => ?_⟩
  have sq := s2 H2 (y.bb.trans (m1.trans m2))
  have sq2 := s4 H2 (m1.trans m2)
  have l1 := dpAll_len s1
  have l2 := dpAll_len s3
  refine ⟨⟨vs, ws, sq, sq2, by rw [zipL_len, l1]; exact Nat.min_le_left _ _, by rw [zipL_len, l2]; exact Nat.min_le_right _ _, by rw [zipL_len, l1, l2]; omega⟩, fun i d hd => ?_⟩
  obtain ⟨y1, y2, k1, k2, rfl⟩ := zipL_get hd
  obtain ⟨w1, g1, g2⟩ := dpAll_get s1 k1
  obtain ⟨w2, g3, g4⟩ := dpAll_get s3 k2
  refine ⟨⟨vs, ws, w1, w2, sq, sq2, g1, g3⟩, fun z H3 hy => ?_⟩
  obtain ⟨T, x', y', rfl, nT, rfl, f, f2⟩ := hy
  have ex := (f vs sq).symm.trans g1
  have ex2 := (f2 ws sq2).symm.trans g3
  cases ex
  cases ex2
  obtain ⟨g, dd⟩ := Grow.newTup (K := K) m2 nT (.cons (dp_mono (y.bb.trans m1) _ _ g2) (.cons (dp_mono m1 _ _ g4) .nil))
  exact ⟨_, g, dd⟩
end
end DL
/-! DLh: dicts of ints, stores of several names, isinstance, slices with a step. -/
namespace DL
open PySem PySem.Spec L2
section
variable {K : PySem.W.Frag}
/-! ### dicts -/
def kvLook (kvs : List (Int × D)) (k : Int) : Option D := (kvs.find? fun p => decide (p.1 = k)).map (·.2)
def kvPut (kvs : List (Int × D)) (k : Int) (v : D) : List (Int × D) :=
  if (kvs.any fun p => decide (p.1 = k)) = true then kvs.map (fun p => if p.1 = k then (p.1, v) else p) else kvs ++ [(k, v)]
theorem inl_dec (a b : Int) : decide ((Sum.inl a : Key) = Sum.inl b) = decide (a = b) := by
  by_cases h : a = b
  · subst h; simp
  · rw [decide_eq_false h, decide_eq_false (fun e => h (Sum.inl.inj e))]
theorem kv_len {B : Hp} : ∀ {ks : List (Key × V)} {kvs : List (Int × D)}, KvOk K B ks kvs → ks.length = kvs.length
  | _, _, .nil => rfl
  | _, _, .cons _ t => by rw [List.length_cons, List.length_cons, kv_len t]
theorem kv_any {B : Hp} (k : Int) : ∀ {ks : List (Key × V)} {kvs : List (Int × D)}, KvOk K B ks kvs → (ks.any fun p => decide (p.1 = Sum.inl k)) = kvs.any fun p => decide (p.1 = k)
  | _, _, .nil => rfl
  | p :: ks, q :: kvs, .cons r t => by
    rw [List.any_cons, List.any_cons, kv_any k t, r.1, inl_dec]
theorem kv_repl {B : Hp} (k : Int) {v : V} {d : D} (h : Dp K B v d) : ∀ {ks : List (Key × V)} {kvs : List (Int × D)}, KvOk K B ks kvs → KvOk K B (ks.map fun p => if p.1 = Sum.inl k then (p.1, v) else p) (kvs.map fun p => if p.1 = k then (p.1, d) else p)
  | _, _, .nil => .nil
  | p :: ks, q :: kvs, .cons r t => by
    rw [List.map_cons, List.map_cons]
    refine .cons ?_ (kv_repl k h t)
    by_cases e : q.1 = k
    · rw [if_pos (show p.1 = Sum.inl k by rw [r.1, e]), if_pos e]
      exact ⟨r.1, h⟩
    · rw [if_neg (show ¬ p.1 = Sum.inl k from fun z => e (Sum.inl.inj (r.1.symm.trans z))), if_neg e]
      exact r
theorem kv_app {B : Hp} {p : Key × V} {q : Int × D} (r : p.1 = Sum.inl q.1 ∧ Dp K B p.2 q.2) : ∀ {ks : List (Key × V)} {kvs : List (Int × D)}, KvOk K B ks kvs → KvOk K B (ks ++ [p]) (kvs ++ [q])
  | _, _, .nil => .cons r .nil
  | _, _, .cons r' t => .cons r' (kv_app r t)
theorem kv_put {B : Hp} {k : Int} {v : V} {d : D} {ks : List (Key × V)} {kvs : List (Int × D)} (h : KvOk K B ks kvs) (hd : Dp K B v d) : KvOk K B (putK ks (Sum.inl k) v) (kvPut kvs k d) := by
  unfold putK kvPut
  rw [kv_any k h]
  split
  · exact kv_repl k hd h
  · exact kv_app ⟨rfl, hd⟩ h
/-- a dict at a slot -/
def dictAt (s : Option Sl) : Option (List (Int × D)) := match s with
  | some (.od kvs) => some kvs
  | some (.fd kvs) => some kvs
  | _ => none
theorem Rl.dict {ad : Option Addr} {B H : Hp} {σ : L2.St} {ρ : Rho} {c : Dr} (r : Rl K ad B σ H ρ c) {i : Nat} {kvs : List (Int × D)} (e : dictAt ρ[i]? = some kvs) : ∃ a ks, σ[i]? = some (some (.ref a)) ∧ Rd H a (.dK ks) ∧ ad ≠ some a ∧ KvOk K B ks kvs := by
  unfold dictAt at e
  split at e
  · rename_i h
    cases e
    obtain ⟨a, ks, e1, e2, e3, e4, e5⟩ := r.slot i _ h
    exact ⟨a, ks, e1, .inl e2, e4, e5⟩
  · rename_i h
    cases e
    obtain ⟨a, w, ks, e1, e2, e3, e4, e5⟩ := r.slot i _ h
    exact ⟨a, ks, e1, .inr ⟨w, e2⟩, e4, e5⟩
  · cases e
/-- d.get(k, x) -/
def sDGet2 (i : Nat) (k x : SE) : SE := fun ρ c => (dictAt ρ[i]?).bind fun kvs => (k ρ c).bind fun p => match p.1 with
  | .int j => (x ρ p.2).bind fun q => some ((kvLook kvs j).getD q.1, q.2)
  | _ => none
/-- d[k] = v -/
def sDPutS (i : Nat) (k v : SE) : SS := fun ρ c => match ρ[i]? with
  | some (.od kvs) => (v ρ c).bind fun p => (k ρ p.2).bind fun q => match q.1 with
    | .int j => if few kvs.length = true then some (.nx, ρ.set i (.od (kvPut kvs j p.1)), q.2) else none
    | _ => none
  | _ => none
theorem imp_dput {i : Nat} {t u : TE} {k v : SE} (hk : ImpE K t k) (hv : ImpE K u v) : ImpS K (sDPut (tVar i) t u) (sDPutS i k v) := fun ad B σ H ρ c r D R e q => by
  unfold sDPutS at e
  split at e
  · rename_i kvs e0
    obtain ⟨⟨vd, c1⟩, e1, e2⟩ := Option.bind_eq_some_iff.mp e
    obtain ⟨⟨kd, c2⟩, e3, e4⟩ := Option.bind_eq_some_iff.mp e2
    cases kd with
    | int j =>
      have e4' : (if few kvs.length = true then some (Fl.nx, ρ.set i (.od (kvPut kvs j vd)), c2) else none) = some r := e4
      split at e4'
      · rename_i hz
        cases e4'
        refine hv ad B σ H ρ c vd c1 _ R e1 fun w B1 H1 x dw => ?_
        have R1 := R.fw x
        obtain ⟨a, ks, g1, g2, g3, g4, g5⟩ := R1.slot i _ e0
        refine ⟨.ref a, g1, hk ad B1 σ H1 ρ c1 _ c2 _ R1 e3 fun w2 B2 H2 y dk => ?_⟩
        have R2 := R1.fw y
        have hH : H2 a = some (.dK ks) := y.keep a _ g4 g2
        obtain ⟨a', ks', k1, k2, k3, k4, k5⟩ := R2.slot i _ e0
        rw [g1] at k1; cases k1
        rw [hH] at k2; cases k2
        obtain ⟨R3, z⟩ := R2.chOwn (s' := .od (kvPut kvs j vd)) (o' := .dK (putK ks (Sum.inl j) w)) e0 rfl g1 ⟨a, _, rfl, upd_same, k3, k4, kv_put k5 (dp_mono y.bb _ _ dw)⟩
        refine ⟨a, _, rfl, .inl ⟨ks, Sum.inl j, hH, dp_int dk, by rw [kv_len k5]; exact few_lt hz, rfl⟩, ?_⟩
        exact q B2 σ _ R3 (FwS.trans R R2 (FwS.trans R R1 (FwS.ofFw R x) (FwS.ofFw R1 y)) z)
      · cases e4'
    | _ => cases e4
  · cases e
/-- d = {} -/
def sDNew (i : Nat) : SS := fun ρ c => some (.nx, ρ.set i (.od []), c)
theorem Rl.newOwn {ad : Option Addr} {B H : Hp} {σ : L2.St} {ρ : Rho} {c : Dr} (R : Rl K ad B σ H ρ c) {i : Nat} {a : Addr} {s : Sl} {o : HO} (n : H a = none) (hs : B a = none → ad ≠ some a → SlOk K ad B (upd H a o) (some (some (.ref a))) s) :
    Rl K ad B (σ.set i (some (.ref a))) (upd H a o) (ρ.set i s) c ∧ FwS ad B σ H ρ B (σ.set i (some (.ref a))) (upd H a o) (ρ.set i s) := by
  have nb : B a = none := R.sub.free n
  have na : ad ≠ some a := fun e => by rw [R.cell a e] at n; cases n
  have no : ¬ Owned ρ σ a := fun ho => by
    obtain ⟨_, _, o, q⟩ := R.ownB ho
    rw [n] at q; cases q
  have sm : Same H (upd H a o) := same_new n
  obtain ⟨R1, w⟩ := (R.up sm).putOwn (i := i) no (hs nb na)
  exact ⟨R1, ⟨Same.refl B, fun b u _ h _ => sm b u h, fun b u h m => (by rw [h] at m; cases m), fun b h => (w b h).elim .inl fun e => .inr (by rw [e]; exact n)⟩⟩
theorem imp_dnew {i : Nat} : ImpS K (tAsg tDNewK (gName i)) (sDNew i) := fun ad B σ H ρ c r D R e q => by
  cases e
  intro p np
  obtain ⟨R1, w⟩ := R.newOwn (i := i) (s := .od []) (o := .dK []) np fun nb na => ⟨p, [], rfl, upd_same, nb, na, .nil⟩
  exact q B _ _ R1 w
/-! a dict walked: it stands still meanwhile, and is not known behind -/
/-! ### several names at once -/
/-! ### isinstance -/
inductive Cl where
  | int | bool | str | tuple | list
def Cl.nm : Cl → String
  | .int => "int" | .bool => "bool" | .str => "str" | .tuple => "tuple" | .list => "list"
def tyN : D → String
  | .none => "NoneType" | .bool _ => "bool" | .int _ => "int" | .str _ => "str" | .list _ => "list" | .tuple _ => "tuple" | .dict _ => "dict"
def isB : Cl → D → Bool
  | .int, .int _ => true | .int, .bool _ => true | .bool, .bool _ => true | .str, .str _ => true | .tuple, .tuple _ => true | .list, .list _ => true
  | _, _ => false
theorem kitC (c : Cl) (d : D) (h : ∀ k, d ≠ .dict k) : kitB (tyN d) c.nm = some (isB c d) := by
  cases d with
  | dict k => exact absurd rfl (h k)
  | none => cases c <;> decide +kernel
  | bool b => cases c <;> first | (show kitB "bool" _ = some true; decide +kernel) | (show kitB "bool" _ = some false; decide +kernel)
  | int b => cases c <;> first | (show kitB "int" _ = some true; decide +kernel) | (show kitB "int" _ = some false; decide +kernel)
  | str b => cases c <;> first | (show kitB "str" _ = some true; decide +kernel) | (show kitB "str" _ = some false; decide +kernel)
  | list b => cases c <;> first | (show kitB "list" _ = some true; decide +kernel) | (show kitB "list" _ = some false; decide +kernel)
  | tuple b => cases c <;> first | (show kitB "tuple" _ = some true; decide +kernel) | (show kitB "tuple" _ = some false; decide +kernel)
theorem dp_ty {B H : Hp} {v : V} {d : D} (s : Same B H) (h : Dp K B v d) : TyX K H v (.type (tyN d)) := by
  cases h with
  | non => exact .base .non
  | bl b => exact .base (.bl b)
  | int i => exact .base (.int i)
  | str x => exact .base (.str x)
  | lst h1 h2 => exact .base (.lst (s _ _ h1))
  | tup h1 h2 => exact .base (.tup (s _ _ h1))
theorem dp_nodict {B : Hp} {v : V} {d : D} (h : Dp K B v d) : ∀ k, d ≠ .dict k := fun k e => by subst e; cases h
def sIsi (k : Cl) (a : SE) : SE := fun ρ c => (a ρ c).bind fun p => some (.bool (isB k p.1), p.2)
theorem imp_isi {k : Cl} {t : TE} {a : SE} (h : ImpE K t a) : ImpE K (tCB (rIsi K) (tCons t (tCons (tC (.ty k.nm)) tNil))) (sIsi k a) := fun ad B σ H ρ c d c' Q R e q => by
  obtain ⟨⟨x, c1⟩, e1, e2⟩ := Option.bind_eq_some_iff.mp e
  cases e2
  refine h ad B σ H ρ c x _ _ R e1 fun v B1 H1 y dv => ?_
  exact ⟨v, .ty k.nm, .type (tyN x), .type k.nm, isB k x, rfl, .ty _, dp_ty y.bh dv, kit_ty (kitC k x (dp_nodict dv)), q _ B1 H1 y (.bl _)⟩
/-- isinstance(x, (T, U)) -/
def sIsi2 (k l : Cl) (a : SE) : SE := fun ρ c => (a ρ c).bind fun p => some (.bool (isB k p.1 || isB l p.1), p.2)
/-! ### slices with a step -/
def pickL {α : Type} (xs : List α) (lo hi st : Option Int) : List α := (sliceRange (sliceBounds lo hi st xs.length).1 (sliceBounds lo hi st xs.length).2.1 (sliceBounds lo hi st xs.length).2.2).filterMap fun j => xs[j]?
def sSl3 (a : SE) (l h s : SO) : SE := fun ρ c => (a ρ c).bind fun p => (l ρ p.2).bind fun q => (h ρ q.2).bind fun r => (s ρ r.2).bind fun o => match p.1 with
  | .list xs => if o.1 = some 0 then none else if few (pickL xs q.1 r.1 o.1).length = true then some (.list (pickL xs q.1 r.1 o.1), o.2) else none
  | _ => none
end
end DL
/-! DLj: several names stored at once, lists of one's own among the values; a block's end. -/
namespace DL
open PySem PySem.Spec L2
section
variable {K : PySem.W.Frag}
/-- a value: plain data, or a new list -/
inductive AV where
  | pl (d : D)
  | fr (ds : List D)
inductive AvOk (K : PySem.W.Frag) (ad : Option Addr) (B H0 H : Hp) : List V → List AV → List Addr → Prop
  | nil {fs : List Addr} : AvOk K ad B H0 H [] [] fs
  | pl {v : V} {vs : List V} {d : D} {as : List AV} {fs : List Addr} : Dp K B v d → AvOk K ad B H0 H vs as fs → AvOk K ad B H0 H (v :: vs) (.pl d :: as) fs
  | fr {p : Addr} {us vs : List V} {ds : List D} {as : List AV} {fs : List Addr} : H p = some (.lst us) → B p = none → H0 p = none → ad ≠ some p → DpAll K B us ds → p ∉ fs → AvOk K ad B H0 H vs as (p :: fs) → AvOk K ad B H0 H (.ref p :: vs) (.fr ds :: as) fs
abbrev SV := Rho → Dr → Option (List AV × Dr)
/-- the way of arguments with new lists among them -/
structure FwV (ad : Option Addr) (c' : Dr) (B H B' H' : Hp) : Prop where
  bb : Same B B'
  bh : Same B' H'
  keep : ∀ a o, ad ≠ some a → H a = some o → H' a = some o
  cell : ∀ a, ad = some a → H' a = some (.lst [.int c'.1, .int c'.2])
  fresh : ∀ a o, B' a = some o → B a = none → H a = none
theorem FwV.fw {ad : Option Addr} {c' : Dr} {B H B' H' : Hp} (x : FwV ad c' B H B' H') : Fw ad c' B H B' H' := ⟨x.bb, x.bh, x.keep, x.cell, x.fresh⟩
def ImpV (K : PySem.W.Frag) (t : TA) (f : SV) : Prop := ∀ (ad : Option Addr) (B : Hp) (σ : L2.St) (H : Hp) (ρ : Rho) (c : Dr) (as : List AV) (c' : Dr) (Q : List V → Hp → Prop), Rl K ad B σ H ρ c → f ρ c = some (as, c') →
  (∀ vs B' H', Fw ad c' B H B' H' → (∀ fs, (∀ p ∈ fs, ∃ o, H p = some o) → AvOk K ad B' H H' vs as fs) → Q vs H') → t σ H Q
def sAvNil : SV := fun _ c => some ([], c)
def sAvP (a : SE) (b : SV) : SV := fun ρ c => (a ρ c).bind fun p => (b ρ p.2).bind fun q => some (.pl p.1 :: q.1, q.2)
def sAvF (a : SL) (b : SV) : SV := fun ρ c => (a ρ c).bind fun p => (b ρ p.2).bind fun q => some (.fr p.1 :: q.1, q.2)
theorem AvOk.weak {ad : Option Addr} {B H0 H0' H : Hp} {vs : List V} {as : List AV} {fs : List Addr} (h : AvOk K ad B H0 H vs as fs) (m : ∀ p, ad ≠ some p → H0 p = none → H0' p = none) : AvOk K ad B H0' H vs as fs := by
  induction h with
  | nil => exact .nil
  | pl h1 _ ih => exact .pl h1 ih
  | fr h1 h2 h3 h4 h5 h6 _ ih => exact .fr h1 h2 (m _ h4 h3) h4 h5 h6 ih
theorem imp_avNil : ImpV K tNil sAvNil := fun ad B σ H ρ c as c' Q r h q => by
  cases h
  exact q [] B H r.fwRefl fun fs _ => .nil
theorem imp_avP {t : TE} {u : TA} {a : SE} {b : SV} (ha : ImpE K t a) (hb : ImpV K u b) : ImpV K (tCons t u) (sAvP a b) := fun ad B σ H ρ c as c' Q R h q => by
  obtain ⟨⟨d, c1⟩, e1, e2⟩ := Option.bind_eq_some_iff.mp h
  obtain ⟨⟨bs, c2⟩, e3, e4⟩ := Option.bind_eq_some_iff.mp e2
  cases e4
  refine ha ad B σ H ρ c d c1 _ R e1 fun v B1 H1 x dv => ?_
  refine hb ad B1 σ H1 ρ c1 bs _ _ (R.fw x) e3 fun vs B2 H2 y av => ?_
  refine q _ B2 H2 (R.trans x y) fun fs hfs => .pl (dp_mono y.bb _ _ dv) ?_
  have nad : ∀ p ∈ fs, ∃ o, H1 p = some o := fun p hp => by
    obtain ⟨o, ho⟩ := hfs p hp
    by_cases e : ad = some p
    · exact ⟨_, x.cell p e⟩
    · exact ⟨o, x.keep p o e ho⟩
  exact (av fs nad).weak fun p n h => by
    cases e : H p with
    | none => rfl
    | some o => rw [x.keep p o n e] at h; cases h
theorem imp_avF {t : TE} {u : TA} {a : SL} {b : SV} (ha : ImpL K t a) (hb : ImpV K u b) : ImpV K (tCons t u) (sAvF a b) := fun ad B σ H ρ c as c' Q R h q => by
  obtain ⟨⟨ds, c1⟩, e1, e2⟩ := Option.bind_eq_some_iff.mp h
  obtain ⟨⟨bs, c2⟩, e3, e4⟩ := Option.bind_eq_some_iff.mp e2
  cases e4
  refine ha ad B σ H ρ c ds c1 _ R e1 fun p us B1 H1' H1 x np eH dv => ?_
  subst eH
  have R1 := R.fw x
  have sm : Same H1 (upd H1 p (.lst us)) := same_new np
  have nad : ad ≠ some p := fun e => by rw [x.cell p e] at np; cases np
  have nb1 : B1 p = none := x.bh.free np
  refine hb ad B1 σ _ ρ c1 bs _ _ (R1.up sm) e3 fun vs B2 H2 y av => ?_
  have hp : H2 p = some (.lst us) := y.keep p _ nad upd_same
  have nb2 : B2 p = none := by
    cases h : B2 p with
    | none => rfl
    | some o =>
      have := y.fresh p o h nb1
      rw [upd_same] at this; cases this
  have h0 : H p = none := by
    cases e : H p with
    | none => rfl
    | some o => rw [x.keep p o nad e] at np; cases np
  have f : Fw ad c2 B H B2 H2 := by
    refine ⟨x.bb.trans y.bb, y.bh, fun b o n h => y.keep b o n (sm b o (x.keep b o n h)), y.cell, fun b o h n => ?_⟩
    cases h1 : B1 b with
    | some u => exact x.fresh b u h1 n
    | none =>
      have h2 := y.fresh b o h h1
      cases h3 : H b with
      | none => rfl
      | some u =>
        have nb : ad ≠ some b := fun z => by
          have := (sm b _ (x.cell b z))
          rw [h2] at this; cases this
        have := sm b u (x.keep b u nb h3)
        rw [h2] at this; cases this
  refine q _ B2 H2 f fun fs hfs => .fr hp nb2 h0 nad (dpAll_mono y.bb _ _ dv) (fun hm => by obtain ⟨o, ho⟩ := hfs p hm; rw [h0] at ho; cases ho) ?_
  refine (av (p :: fs) fun b hb => ?_).weak fun b n h => ?_
  · rcases List.mem_cons.mp hb with e | hb
    · rw [e]; exact ⟨_, upd_same⟩
    · obtain ⟨o, ho⟩ := hfs b hb
      by_cases e : ad = some b
      · exact ⟨_, sm b _ (x.cell b e)⟩
      · exact ⟨o, sm b o (x.keep b o e ho)⟩
  · cases e : H b with
    | none => rfl
    | some o => rw [sm b o (x.keep b o n e)] at h; cases h
def slOf : AV → Sl
  | .pl d => .im d
  | .fr ds => .ol ds
def setMany : List Nat → List V → L2.St → L2.St
  | i :: is, v :: vs, σ => setMany is vs (σ.set i (some v))
  | _, _, σ => σ
def setAv : List Nat → List AV → Rho → Rho
  | i :: is, a :: as, ρ => setAv is as (ρ.set i (slOf a))
  | _, _, ρ => ρ
theorem put_many {ad : Option Addr} {B H0 H : Hp} : ∀ {is : List Nat} {vs : List V} {as : List AV} {fs : List Addr} {σ : L2.St} {ρ : Rho} {c : Dr}, Rl K ad B σ H ρ c → AvOk K ad B H0 H vs as fs → (∀ b, Owned ρ σ b → (∃ o, H0 b = some o) ∨ b ∈ fs) → is.length = as.length →
    Rl K ad B (setMany is vs σ) H (setAv is as ρ) c ∧ ∀ b, Owned (setAv is as ρ) (setMany is vs σ) b → Owned ρ σ b ∨ H0 b = none
  | [], [], [], _, _, _, _, R, _, _, _ => ⟨R, fun b h => .inl h⟩
  | i :: is, v :: vs, .pl d :: as, fs, σ, ρ, c, R, h, ho, hl => by
    cases h with
    | pl h1 h2 =>
      have R1 := R.setIm (i := i) h1
      obtain ⟨R2, w⟩ := put_many (is := is) R1 h2 (fun b hb => ho b (owned_set_of R.len rfl hb)) (by simpa using hl)
      exact ⟨R2, fun b hb => (w b hb).elim (fun z => .inl (owned_set_of R.len rfl z)) .inr⟩
  | i :: is, v :: vs, .fr ds :: as, fs, σ, ρ, c, R, h, ho, hl => by
    cases h with
    | @fr p us _ _ _ _ h1 h2 h3 h4 h5 h6 h7 =>
      have no : ¬ Owned ρ σ p := fun hb => by
        rcases ho p hb with ⟨o, z⟩ | z
        · rw [h3] at z; cases z
        · exact h6 z
      obtain ⟨R1, w1⟩ := R.putOwn (i := i) (s := .ol ds) no ⟨p, us, rfl, h1, h2, h4, h5⟩
      obtain ⟨R2, w⟩ := put_many (is := is) R1 h7 (fun b hb => (w1 b hb).elim (fun z => (ho b z).elim .inl fun y => .inr (List.mem_cons_of_mem _ y)) fun e => .inr (by rw [e]; exact List.mem_cons_self)) (by simpa using hl)
      exact ⟨R2, fun b hb => (w b hb).elim (fun z => (w1 b z).elim .inl fun e => .inr (by rw [e]; exact h3)) .inr⟩
  | [], _ :: _, _ :: _, _, _, _, _, _, _, _, hl => by simp at hl
  | _ :: _, [], [], _, _, _, _, _, _, _, hl => by simp at hl
  | _ :: _, _, [], _, _, _, _, _, _, _, hl => by simp at hl
  | [], [], _ :: _, _, _, _, _, _, h, _, _ => by cases h
  | [], _ :: _, [], _, _, _, _, _, h, _, _ => by cases h
  | _ :: _, [], _ :: _, _, _, _, _, _, h, _, _ => by cases h
theorem AvOk.up {ad : Option Addr} {B H0 H H2 : Hp} {vs : List V} {as : List AV} {fs : List Addr} (h : AvOk K ad B H0 H vs as fs) (s2 : Same H H2) : AvOk K ad B H0 H2 vs as fs := by
  induction h with
  | nil => exact .nil
  | pl h1 _ ih => exact .pl h1 ih
  | fr h1 h2 h3 h4 h5 h6 _ ih => exact .fr (s2 _ _ h1) h2 h3 h4 h5 h6 ih
def sMany (is : List Nat) (f : SV) : SS := fun ρ c => (f ρ c).bind fun p => if is.length = p.1.length then some (.nx, setAv is p.1 ρ, p.2) else none
theorem avOk_len {ad : Option Addr} {B H0 H : Hp} {vs : List V} {as : List AV} {fs : List Addr} (h : AvOk K ad B H0 H vs as fs) : vs.length = as.length := by
  induction h with
  | nil => rfl
  | pl _ _ ih => rw [List.length_cons, List.length_cons, ih]
  | fr _ _ _ _ _ _ _ ih => rw [List.length_cons, List.length_cons, ih]
theorem many_core {t : TA} {f : SV} {is : List Nat} (h : ImpV K t f) {ad : Option Addr} {B : Hp} {σ : L2.St} {H : Hp} {ρ : Rho} {c : Dr} {r : Fl × Rho × Dr} {D : Ends} {Q : List V → Hp → Prop} (R : Rl K ad B σ H ρ c) (e : sMany is f ρ c = some r) (q : Post K D ad B σ H ρ r)
    (hQ : ∀ vs H', vs.length = is.length → (∀ H2, Same H' H2 → D.nx (setMany is vs σ) H2) → Q vs H') : t σ H Q := by
  obtain ⟨⟨as, c1⟩, e1, e2⟩ := Option.bind_eq_some_iff.mp e
  have e2' : (if is.length = as.length then some (Fl.nx, setAv is as ρ, c1) else none) = some r := e2
  split at e2'
  · rename_i hl
    cases e2'
    refine h ad B σ H ρ c as c1 _ R e1 fun vs B' H' x av => hQ vs H' (by rw [avOk_len (av [] (fun _ h => by cases h)), hl]) fun H2 s2 => ?_
    have R1 := (R.fw x).up s2
    have av1 : AvOk K ad B' H H2 vs as [] := (av [] (fun _ h => by cases h)).up s2
    obtain ⟨R2, w⟩ := put_many R1 av1 (fun b hb => by
      obtain ⟨_, _, o, z⟩ := R.ownB hb
      exact .inl ⟨o, z⟩) hl
    exact q B' _ H2 R2 ⟨x.bb, fun b o n h _ => s2 b o (x.keep b o n h), fun b o h n => .inl (x.fresh b o h n), fun b hb => w b hb⟩
  · cases e2'
theorem imp_many2 {i j : Nat} {t : TA} {f : SV} (h : ImpV K t f) : ImpS K (tPar i j t) (sMany [i, j] f) := fun ad B σ H ρ c r D R e q =>
  many_core h R e q fun vs H' hl hn => by
    cases vs with
    | nil => simp at hl
    | cons v vs =>
      cases vs with
      | nil => simp at hl
      | cons w vs =>
        cases vs with
        | nil => exact ⟨v, w, rfl, hn H' (Same.refl _)⟩
        | cons _ _ => simp at hl
theorem imp_many3 {i j l : Nat} {t : TA} {f : SV} (h : ImpV K t f) : ImpS K (tPar3 i j l t) (sMany [i, j, l] f) := fun ad B σ H ρ c r D R e q =>
  many_core h R e q fun vs H' hl hn => by
    cases vs with
    | nil => simp at hl
    | cons v vs =>
      cases vs with
      | nil => simp at hl
      | cons w vs =>
        cases vs with
        | nil => simp at hl
        | cons u vs =>
          cases vs with
          | nil => exact ⟨v, w, u, rfl, hn H' (Same.refl _)⟩
          | cons _ _ => simp at hl
def tGs : List Nat → TGs
  | [] => gNil
  | i :: is => gCons (gName i) (tGs is)
theorem tGs_ok : ∀ {is : List Nat} {vs : List V} {σ : L2.St} {H : Hp} {Q : L2.St → Hp → Prop}, vs.length = is.length → Q (setMany is vs σ) H → tGs is vs σ H Q
  | [], [], _, _, _, _, q => ⟨rfl, q⟩
  | i :: is, v :: vs, σ, H, Q, hl, q => ⟨v, vs, rfl, tGs_ok (is := is) (by simpa using hl) q⟩
  | [], _ :: _, _, _, _, hl, _ => by simp at hl
  | _ :: _, [], _, _, _, hl, _ => by simp at hl
theorem imp_manyT {is : List Nat} {t : TA} {f : SV} (h : ImpV K t f) (hn : few is.length = true) : ImpS K (tAsg (tTup t) (gTup K is.length (tGs is))) (sMany is f) := fun ad B σ H ρ c r D R e q =>
  many_core h R e q fun vs H' hl hn' => ⟨by rw [hl]; exact few_line hn, fun p np => ⟨p, vs, rfl, SqT.of upd_same, hl, tGs_ok hl (hn' _ (same_new np))⟩⟩
/-- behind a block some slots are not known any more -/
def sThen (is : List Nat) (f : SS) : SS := fun ρ c => (f ρ c).bind fun r => match r with
  | (.rt d, ρ', c') => some (.rt d, ρ', c')
  | (fl, ρ', c') => some (fl, unset is ρ', c')
theorem imp_then {t : TS} {f : SS} (is : List Nat) (h : ImpS K t f) : ImpS K t (sThen is f) := fun ad B σ H ρ c r D R e q => by
  obtain ⟨⟨fl, ρ', c'⟩, e1, e2⟩ := Option.bind_eq_some_iff.mp e
  refine h ad B σ H ρ c _ D R e1 ?_
  cases fl with
  | nx =>
    cases e2
    exact fun B' σ' H' R' y => by
      obtain ⟨R2, z⟩ := R'.forgets is
      exact q B' σ' H' R2 (FwS.trans R R' y z)
  | bk =>
    cases e2
    exact fun B' σ' H' R' y => by
      obtain ⟨R2, z⟩ := R'.forgets is
      exact q B' σ' H' R2 (FwS.trans R R' y z)
  | ct =>
    cases e2
    exact fun B' σ' H' R' y => by
      obtain ⟨R2, z⟩ := R'.forgets is
      exact q B' σ' H' R2 (FwS.trans R R' y z)
  | rt d => cases e2; exact q
end
end DL
/-! DLk: the draws' cell; what a law's own def promises. -/
namespace DL
open PySem PySem.Spec L2
section
variable {K : PySem.W.Frag}
/-- draws[k] -/
def sDrIx (i : Nat) (k : SE) : SE := fun ρ c => match ρ[i]? with
  | some .dr => (k ρ c).bind fun q => match q.1 with
    | .int j => if j = 0 then some (.int q.2.1, q.2) else if j = 1 then some (.int q.2.2, q.2) else none
    | _ => none
  | _ => none
theorem imp_drIx {i : Nat} {u : TE} {k : SE} (hk : ImpE K u k) : ImpE K (tOp (rIx K) (tVar i) u) (sDrIx i k) := fun ad B σ H ρ c d c' Q R e q => by
  unfold sDrIx at e
  split at e
  · rename_i e0
    obtain ⟨⟨kd, c1⟩, e1, e2⟩ := Option.bind_eq_some_iff.mp e
    cases kd with
    | int j =>
      obtain ⟨a, rfl, g1⟩ := R.slot i _ e0
      have e2' : (if j = 0 then some (PyData.int c1.1, c1) else if j = 1 then some (PyData.int c1.2, c1) else none) = some (d, c') := e2
      refine ⟨.ref a, g1, hk _ B σ H ρ c (.int j) _ _ R e1 fun w B1 H1 x dw => ?_⟩
      have hp : H1 a = some (.lst [.int c1.1, .int c1.2]) := x.cell a rfl
      split at e2'
      · rename_i hj
        cases e2'
        subst hj
        exact .inl ⟨a, _, 0, .int c'.1, rfl, dp_int dw, SqL.of hp, rfl, q _ B1 H1 x (.int _)⟩
      · split at e2'
        · rename_i hj
          cases e2'
          subst hj
          exact .inl ⟨a, _, 1, .int c'.2, rfl, dp_int dw, SqL.of hp, rfl, q _ B1 H1 x (.int _)⟩
        · cases e2'
    | _ => cases e2
  · cases e
/-- draws[k] = e -/
def sDrSet (i : Nat) (k a : SE) : SS := fun ρ c => match ρ[i]? with
  | some .dr => (a ρ c).bind fun p => (k ρ p.2).bind fun q => match q.1, p.1 with
    | .int j, .int x => if j = 0 then some (.nx, ρ, (x, q.2.2)) else if j = 1 then some (.nx, ρ, (q.2.1, x)) else none
    | _, _ => none
  | _ => none
theorem Rl.cellSet {B H : Hp} {σ : L2.St} {ρ : Rho} {c c' : Dr} {a : Addr} (R : Rl K (some a) B σ H ρ c) : Rl K (some a) B σ (upd H a (.lst [.int c'.1, .int c'.2])) ρ c' ∧ FwS (some a) B σ H ρ B σ (upd H a (.lst [.int c'.1, .int c'.2])) ρ := by
  have nb : B a = none := R.cfree a rfl
  have ne : ∀ b : Addr, some a ≠ some b → upd H a (.lst [.int c'.1, .int c'.2]) b = H b := fun b h => upd_ne fun z => h (by rw [z])
  refine ⟨⟨fun b o h => ?_, fun b h => (by cases h; exact upd_same), R.cfree, R.len, fun i t e => ?_, R.sep⟩, ⟨Same.refl B, fun b o n h _ => by rw [ne b n]; exact h, fun b o h n => (by rw [h] at n; cases n), fun b h => .inl h⟩⟩
  · rw [ne b (fun z => by cases z; rw [nb] at h; cases h)]; exact R.sub b o h
  · have q := R.slot i t e
    cases t with
    | un => trivial
    | im d => exact q
    | ol xs => obtain ⟨b, vs, e1, e2, e3, e4, e5⟩ := q; exact ⟨b, vs, e1, by rw [ne b e4]; exact e2, e3, e4, e5⟩
    | od xs => obtain ⟨b, vs, e1, e2, e3, e4, e5⟩ := q; exact ⟨b, vs, e1, by rw [ne b e4]; exact e2, e3, e4, e5⟩
    | fd xs => obtain ⟨b, w, vs, e1, e2, e3, e4, e5⟩ := q; exact ⟨b, w, vs, e1, by rw [ne b e4]; exact e2, e3, e4, e5⟩
    | op v => exact q
    | dr => exact q
theorem imp_drSet {i : Nat} {t u : TE} {k a : SE} (hk : ImpE K u k) (h : ImpE K t a) : ImpS K (tAsg t (gSub (tVar i) u rSetL)) (sDrSet i k a) := fun ad B σ H ρ c r D R e q => by
  unfold sDrSet at e
  split at e
  · rename_i e0
    obtain ⟨⟨d, c1⟩, e1, e2⟩ := Option.bind_eq_some_iff.mp e
    obtain ⟨⟨kd, c2⟩, e3, e4⟩ := Option.bind_eq_some_iff.mp e2
    obtain ⟨p, rfl, g1⟩ := R.slot i _ e0
    cases kd with
    | int j =>
      cases d with
      | int x =>
        have e4' : (if j = 0 then some (Fl.nx, ρ, (x, c2.2)) else if j = 1 then some (Fl.nx, ρ, (c2.1, x)) else none) = some r := e4
        refine h _ B σ H ρ c (.int x) c1 _ R e1 fun v B1 H1 y dv => ?_
        have R1 := R.fw y
        refine ⟨.ref p, g1, hk _ B1 σ H1 ρ c1 (.int j) c2 _ R1 e3 fun w B2 H2 z dw => ?_⟩
        have R2 := R1.fw z
        have hp : H2 p = some (.lst [.int c2.1, .int c2.2]) := z.cell p rfl
        have f02 := FwS.trans R R1 (FwS.ofFw R y) (FwS.ofFw R1 z)
        split at e4'
        · rename_i hj
          cases e4'
          subst hj
          rw [dp_int dv]
          obtain ⟨R3, w3⟩ := R2.cellSet (c' := (x, c2.2))
          exact ⟨p, _, 0, 0, rfl, dp_int dw, hp, rfl, q B2 σ _ R3 (FwS.trans R R2 f02 w3)⟩
        · split at e4'
          · rename_i hj
            cases e4'
            subst hj
            rw [dp_int dv]
            obtain ⟨R3, w3⟩ := R2.cellSet (c' := (c2.1, x))
            exact ⟨p, _, 1, 1, rfl, dp_int dw, hp, rfl, q B2 σ _ R3 (FwS.trans R R2 f02 w3)⟩
          · cases e4'
      | _ => cases e4
    | _ => cases e4
  · cases e

/-! ### a law's text -/
def spLaw (K : PySem.W.Frag) : Sp := fun vs H Q _ => ∃ (a : Addr) (ns : List Int), vs = [.ref a] ∧ SqL K H a (ns.map V.int) ∧ ns.length ≤ 63 ∧ ∀ H', Q (.bl true) H'
/-- _law_draws: a new cell -/
def spCell (K : PySem.W.Frag) (F : List Int → Int → Option Dr) : Sp := fun vs H Q _ => ∃ (a : Addr) (ns : List Int) (k : Int) (c : Dr), vs = [.ref a, .int k] ∧ SqL K H a (ns.map V.int) ∧ F ns k = some c ∧
  ∀ p H', Same H H' → H p = none → H' p = some (.lst [.int c.1, .int c.2]) → Q (.ref p) H'
theorem sqL_keep {H H' : Hp} {a : Addr} {ns : List Int} (h : SqL K H a (ns.map V.int)) (k : ∀ o, H a = some o → H' a = some o) : SqL K H' a (ns.map V.int) := by
  rcases h with (h | ⟨o, h⟩) | h
  · exact .inl (.inl (k _ h))
  · exact .inl (.inr ⟨o, k _ h⟩)
  · exact .inr h
def emp : Hp := fun _ => none
theorem same_emp (H : Hp) : Same emp H := fun _ _ h => by cases h
/-- the law's slots behind «draws = _law_draws(script, k)» -/
def rhoL (v : V) (k : Int) (n : Nat) : Rho := .op v :: .im (.int k) :: .dr :: List.replicate n .un
theorem rl_law {H : Hp} {σ : L2.St} {v : V} {k : Int} {n : Nat} {p : Addr} {c : Dr} (hc : H p = some (.lst [.int c.1, .int c.2])) (h0 : σ[0]? = some (some v)) (h1 : σ[1]? = some (some (.int k))) (h2 : σ[2]? = some (some (.ref p))) (hl : σ.length = n + 3) :
    Rl K (some p) emp σ H (rhoL v k n) c := by
  have un : ∀ {i : Nat} {s : Sl}, (List.replicate n Sl.un)[i]? = some s → s = .un := fun {i s} e => by
    have := List.mem_of_getElem? e
    rw [List.mem_replicate] at this
    exact this.2
  have no : ∀ {i : Nat} {s : Sl}, (rhoL v k n)[i]? = some s → owns s = false := fun {i s} e => by
    match i, e with
    | 0, e => simp [rhoL] at e; subst e; rfl
    | 1, e => simp [rhoL] at e; subst e; rfl
    | 2, e => simp [rhoL] at e; subst e; rfl
    | i + 3, e => rw [un (show (List.replicate n Sl.un)[i]? = some s from e)]; rfl
  refine ⟨same_emp H, fun a e => (by cases e; exact hc), fun a e => rfl, by rw [hl]; simp [rhoL], fun i s e => ?_, fun i j s t a _ e1 _ o1 => by rw [no e1] at o1; cases o1⟩
  match i, e with
  | 0, e => simp [rhoL] at e; subst e; exact h0
  | 1, e => simp [rhoL] at e; subst e; exact ⟨_, h1, .int k⟩
  | 2, e => simp [rhoL] at e; subst e; exact ⟨p, rfl, h2⟩
  | i + 3, e => rw [un (show (List.replicate n Sl.un)[i]? = some s from e)]; trivial
section
variable {P : Program} {w : World} {mg : Str → Option Value} {base : Heap} {st : Stmt} {f : Addr} {fd : FuncData} {N : List Str} {k n : Nat} {M : Int}
abbrev rLenS (K : PySem.W.Frag) : List V → Hp → VK → Prop := fun xs H Q => ∃ p ys, xs = [.ref p] ∧ (SqL K H p ys ∨ SqT K H p ys) ∧ Q (.int ys.length) H
end
end
end DL
/-! DLl: the cell a law draws from, as its script tells it; range of three; keywords alone. -/
namespace DL
open PySem PySem.Spec L2
def cell0 (ns : List Int) (k : Nat) : Int :=
  if k < ns.length then (ns.getD k 0) % (10 ^ 300) else if 0 < ns.length then (ns.getD (k % ns.length) 0) % 10 ^ 15 + 15485863 * (k : Int) else 15485863 * (k : Int)
def cellF (ns : List Int) (k : Int) : Option Dr :=
  if 0 ≤ k ∧ k < 1000 ∧ ns.length ≤ 63 then
    some (if 10 ^ 18 ≤ cell0 ns k.toNat then cell0 ns k.toNat else 0, 1 + (cell0 ns k.toNat * 69621 + 86028121 * (k + 1)) % 2147483646)
  else none
/-- a cell that the law may draw from -/
def OkDr (c : Dr) : Prop := 0 ≤ c.1 ∧ 0 ≤ c.2 ∧ c.2 < 2147483647 ∧ c.1 < 10 ^ 300
theorem cell0_lt (ns : List Int) (k : Nat) (hk : k < 1000) : 0 ≤ cell0 ns k ∧ cell0 ns k < 10 ^ 300 := by
  unfold cell0
  split
  · omega
  · split
    · omega
    · omega
theorem cellF_ok {ns : List Int} {i : Nat} (h1 : ns.length ≤ 63) (h2 : i < 1000) : ∃ c, cellF ns i = some c ∧ OkDr c := by
  unfold cellF
  rw [if_pos ⟨by omega, by omega, h1⟩]
  refine ⟨_, rfl, ?_⟩
  rw [Int.toNat_natCast]
  have := cell0_lt ns i h2
  generalize cell0 ns i = z at *
  unfold OkDr
  dsimp only
  split <;> omega
section
variable {K : PySem.W.Frag}
/-! ### range(i, j, c) -/
def stpL (lo c : Int) (n : Nat) : List D := (List.range n).map fun i => .int (lo + (i : Nat) * c)
def okR3 (i j c : Int) : Bool := decide (i.natAbs ≤ 1000000 ∧ j.natAbs ≤ 1000000 ∧ 0 < c ∧ c.natAbs ≤ 1000000)
def sR3 (a : SA) : SI := fun ρ c => (a ρ c).bind fun p => match p.1 with
  | [.int i, .int j, .int e] => if okR3 i j e = true then some (stpL i e (Builtin.Range.rangeSize i j e).toNat, p.2) else none
  | _ => none
end
section
variable {X : Cx} {CX : CXT} {k : Nat} {f C : Addr} {fd : FuncData} {ps ks : List Str} {sp : Sp} {E : XK} {x m : Str} {p pos apos kpos : Pos} {e o : Expr} {es : List Expr} {kws : List Keyword} {te ta : TE} {t tk : TA} {nm : Option Str}
variable {g : List Value → List Value → List Value} {gV : List V → List V → List V}
/-- f(k = v, ..), nothing by position -/
theorem pe_callK0 (F : FnOk X.prog X.w X.K X.mg X.base CX k f fd ps sp) (hr : Room k X.A) (hg : Gl X x) (hm : X.mg x = some (.ref f)) (hk : PySem.W.keepIn X.K (.ref f) = true) (hb : KBinds X.K fd ps ks g gV) (hx : Passes CX X E)
    (hkw : PK X kws tk) (hall : (backToKw pos (keywordEach kws X.env)).all (·.1.isSome) = true := by rfl) (hks : (backToKw pos (keywordEach kws X.env)).filterMap (·.1) = ks := by rfl)
    (hdb : (x == ("__debug__" : Str)) = false := by decide)
    (hpl : ((backTo pos (starEach [] X.env)).any (·.1) || (backToKw pos (keywordEach kws X.env)).any (·.1.isNone)) = false := by rfl) :
    PE X (.Call (.Name x p) [] kws pos) (tCallK sp gV E tNil tk) := by
  refine ⟨fun pins s σ H Q I h => ?_⟩
  refine wpAny_Call_Name_kw (ld_glob I hg hm ?_ hdb)
  refine PySem.W.callWith_KW0 (h₀ := X.base) I.ok.mod.kin hk hall (thn (hkw.run pos pins s σ H _ I h) fun ws s2 ⟨zs, H2, I2, rz, q2⟩ => ⟨I2.kIn, ?_⟩) hpl
  rw [hks]
  exact run_fnk (us := []) (vs := []) F hr hb hx I2 .nil rz q2
end

/-! ### keywords: the parameters' order -/
def kgo (a b : Nat) (order : List Nat) {α : Type} (us ws : List α) : List α := if us.length = a ∧ ws.length = b then order.filterMap fun i => (us ++ ws)[i]? else []
theorem vals_order {xs : List V} {us : List Value} (r : Vals xs us) : ∀ order : List Nat, Vals (order.filterMap fun i => xs[i]?) (order.filterMap fun i => us[i]?)
  | [] => .nil
  | i :: o => by
    rw [List.filterMap_cons, List.filterMap_cons]
    cases q : xs[i]? with
    | none =>
      have : us[i]? = none := by
        rw [List.getElem?_eq_none_iff] at q ⊢
        rw [← r.length]; exact q
      rw [this]
      exact vals_order r o
    | some v =>
      obtain ⟨u, e1, e2⟩ := r.get q
      rw [e1]
      exact .cons e2 (vals_order r o)
theorem dpAll_order {K : PySem.W.Frag} {B : Hp} {ds : List D} {vs : List V} (r : DpAll K B vs ds) : ∀ order : List Nat, DpAll K B (order.filterMap fun i => vs[i]?) (order.filterMap fun i => ds[i]?)
  | [] => .nil
  | i :: o => by
    rw [List.filterMap_cons, List.filterMap_cons]
    cases q : ds[i]? with
    | none =>
      have : vs[i]? = none := by
        rw [List.getElem?_eq_none_iff] at q ⊢
        rw [dpAll_len r]; exact q
      rw [this]
      exact dpAll_order r o
    | some v =>
      obtain ⟨u, e1, e2⟩ := dpAll_get r q
      rw [e1]
      exact .cons e2 (dpAll_order r o)
theorem kgOk {K : PySem.W.Frag} (a b : Nat) (order : List Nat) (B : Hp) (vs us : List V) (ds es : List D) (h1 : DpAll K B vs ds) (h2 : DpAll K B us es) : DpAll K B (kgo a b order vs us) (kgo a b order ds es) := by
  unfold kgo
  rw [dpAll_len h1, dpAll_len h2]
  split
  · exact dpAll_order (dpAll_append h1 h2) order
  · exact .nil
theorem kb_of {K : PySem.W.Frag} {x qual : Str} {st : Stmt} {f : Addr} {fd : FuncData} {ps ks : List Str} (a b : Nat) (order : List Nat) (F : Fun K x qual st f fd) (hp : ps ≠ [])
    (h : ∀ (kV doc pm : Value) (an : Option Addr) (cdv ct : Value) (us ws : List Value), us.length = a → ws.length = b → bindArgs (PySem.W.fnOf x qual (defArgs st) (defBody st) (defScope st) .none kV doc pm an cdv ct) ⟨us, ks.zip ws⟩ = pure (ps.zip (kgo a b order us ws))) : KBinds K fd ps ks (kgo a b order) (kgo a b order) := by
  obtain ⟨oc, od, kV, doc, pm, an, cdv, ct, osl, rfl, lk, hcd⟩ := F.ex
  refine ⟨fun s us ws _ hl => ?_, fun {vs us zs ws} r rz => ?_⟩
  · by_cases hz : us.length = a ∧ ws.length = b
    · exact .of_eq (h kV doc pm an cdv ct us ws hz.1 hz.2)
    · unfold kgo at hl
      rw [if_neg hz] at hl
      cases ps with
      | nil => exact absurd rfl hp
      | cons => cases hl
  · unfold kgo
    rw [r.length, rz.length]
    split
    · exact vals_order (Vals.append r rz) order
    · exact .nil
end DL
/-! DLm: _law_draws read by hand. -/
namespace DL
open PySem PySem.Spec L2
section
variable {K : PySem.W.Frag} {σ : L2.St} {H : Hp}
/-- evaluates to v, and changes nothing -/
def Ev (t : TE) (σ : L2.St) (H : Hp) (v : V) : Prop := ∀ H1, Same H H1 → ∀ Q : VK, (∀ H2, Same H1 H2 → Q v H2) → t σ H1 Q
theorem ev_c {v : V} : Ev (tC v) σ H v := fun H1 _ Q q => q H1 (Same.refl H1)
theorem ev_v {i : Nat} {v : V} (h : σ[i]? = some (some v)) : Ev (tVar i) σ H v := fun H1 _ Q q => ⟨v, h, q H1 (Same.refl H1)⟩
theorem Ev.up {t : TE} {v : V} {H' : Hp} (h : Ev t σ H v) (s : Same H H') : Ev t σ H' v := fun H1 s1 Q q => h H1 (s.trans s1) Q q
theorem ev_op {r : R2} {g : D → D → Option D} (h : OpD K r g) {ta tb : TE} {a b : Int} {v : V} {z : D} (ha : Ev ta σ H (.int a)) (hb : Ev tb σ H (.int b)) (e : g (.int a) (.int b) = some z) (hz : ∀ B u, Dp K B u z → u = v) : Ev (tOp r ta tb) σ H v := fun H1 s Q q => by
  refine ha H1 s _ fun H2 s2 => ?_
  refine hb H2 (s.trans s2) _ fun H3 s3 => ?_
  exact h emp H3 _ _ _ _ z _ (same_emp H3) (.int a) (.int b) e fun u B' H' gr d => by
    rw [hz _ _ d]
    exact q H' (s2.trans (s3.trans gr.hh))
theorem ev_opI {r : R2} {g : D → D → Option D} (h : OpD K r g) {ta tb : TE} {a b z : Int} (ha : Ev ta σ H (.int a)) (hb : Ev tb σ H (.int b)) (e : g (.int a) (.int b) = some (.int z)) : Ev (tOp r ta tb) σ H (.int z) :=
  ev_op h ha hb e fun _ _ d => dp_int d
theorem ev_opB {r : R2} {g : D → D → Option D} (h : OpD K r g) {ta tb : TE} {a b : Int} {z : Bool} (ha : Ev ta σ H (.int a)) (hb : Ev tb σ H (.int b)) (e : g (.int a) (.int b) = some (.bool z)) : Ev (tOp r ta tb) σ H (.bl z) :=
  ev_op h ha hb e fun _ _ d => dp_bool d
theorem same_keep {H H' : Hp} (s : Same H H') {a : Addr} : ∀ o, H a = some o → H' a = some o := fun o h => s a o h
theorem ev_len {a : Addr} {ns : List Int} (h0 : σ[0]? = some (some (.ref a))) (hS : SqL K H a (ns.map V.int)) : Ev (tCB (rLenS K) (tCons (tVar 0) tNil)) σ H (.int ns.length) := fun H1 s Q q => by
  refine ⟨.ref a, h0, a, ns.map V.int, rfl, .inl (sqL_keep hS (same_keep s)), ?_⟩
  rw [List.length_map]
  exact q H1 (Same.refl H1)
theorem ev_ix {a : Addr} {ns : List Int} {u : TE} {k : Nat} (h0 : σ[0]? = some (some (.ref a))) (hS : SqL K H a (ns.map V.int)) (hu : Ev u σ H (.int (k : Int))) (hk : k < ns.length) : Ev (tOp (rIx K) (tVar 0) u) σ H (.int (ns.getD k 0)) := fun H1 s Q q => by
  refine ⟨.ref a, h0, hu H1 s _ fun H2 s2 => ?_⟩
  refine .inl ⟨a, ns.map V.int, (k : Int), .int (ns.getD k 0), rfl, rfl, sqL_keep hS (same_keep (s.trans s2)), ?_, q H2 s2⟩
  refine atI_nat ?_
  rw [List.getElem?_map, List.getElem?_eq_getElem hk]
  simp [List.getD, List.getElem?_eq_getElem hk]
theorem ev_intB {t : TE} {b : Bool} (h : Ev t σ H (.bl b)) : Ev (tCB (fun xs H Q => (∃ i, xs = [.int i] ∧ Q (.int i) H) ∨ ∃ k, xs = [.bl k] ∧ Q (.int (if k then 1 else 0)) H) (tCons t tNil)) σ H (.int (if b then 1 else 0)) := fun H1 s Q q => by
  refine h H1 s _ fun H2 s2 => ?_
  exact .inr ⟨b, rfl, q H2 s2⟩
theorem mul_big {a b : Int} (ha : -1073741824 < a) (ha' : a < 1073741824) : mulD (.int a) (.int b) = some (.int (a * b)) := by
  show (if midI a = true ∨ midI b = true ∨ a.natAbs.log2 + b.natAbs.log2 < 1000000 then some (PyData.int (a * b)) else none) = _
  rw [if_pos (.inl (decide_eq_true (by show a.natAbs < 2 ^ 64; omega)))]
theorem log2_le_of_lt {n k : Nat} (h : n < 2 ^ (k + 1)) : n.log2 ≤ k := by
  by_cases hn : n = 0
  · subst hn; simp
  · have := (Nat.log2_lt hn).mpr h
    omega
theorem mul_wide {a b : Int} (ha : a.natAbs < 10 ^ 308) (hb : b.natAbs < 10 ^ 308) : mulD (.int a) (.int b) = some (.int (a * b)) := by
  show (if midI a = true ∨ midI b = true ∨ a.natAbs.log2 + b.natAbs.log2 < 1000000 then some (PyData.int (a * b)) else none) = _
  have h1 := log2_le_of_lt (k := 1100) (Nat.lt_trans ha (by decide +kernel))
  have h2 := log2_le_of_lt (k := 1100) (Nat.lt_trans hb (by decide +kernel))
  rw [if_pos (.inr (.inr (by omega)))]

abbrev tPow (a b : Int) : TE := tOp (rI CPow fun i j => .int (i ^ j.toNat)) (tC (.int a)) (tC (.int b))
abbrev tMul (K : PySem.W.Frag) : TE → TE → TE := tOp (rMulA K)
abbrev tAdd (K : PySem.W.Frag) : TE → TE → TE := tOp (rAddA K)
abbrev tMod : TE → TE → TE := tOp (rI (fun _ j => 0 < j) fun i j => .int (i % j))
abbrev tLen0 (K : PySem.W.Frag) : TE := tCB (rLenS K) (tCons (tVar 0) tNil)
def drawsT (K : PySem.W.Frag) : TS := tSeq (tAsg (tMul K (tC (.int 15485863)) (tVar 1)) (gName 2))
  (tSeq (tIfS (tTest (tOp (rI0 fun i j => .bl (decide (i < j))) (tVar 1) (tLen0 K)))
    (tAsg (tMod (tOp (rIx K) (tVar 0) (tVar 1)) (tMul K (tMul K (tMul K (tMul K (tPow 10 60) (tPow 10 60)) (tPow 10 60)) (tPow 10 60)) (tPow 10 60))) (gName 2))
    (tIfS (tTest (tOp (rI0 fun i j => .bl (decide (j < i))) (tLen0 K) (tC (.int 0))))
      (tAsg (tAdd K (tMod (tOp (rIx K) (tVar 0) (tMod (tVar 1) (tLen0 K))) (tPow 10 15)) (tMul K (tC (.int 15485863)) (tVar 1))) (gName 2)) tNext))
    (tRet (tLst (tCons (tMul K (tVar 2) (tCB (fun xs H Q => (∃ i, xs = [.int i] ∧ Q (.int i) H) ∨ ∃ k, xs = [.bl k] ∧ Q (.int (if k then 1 else 0)) H) (tCons (tOp (rI0 fun i j => .bl (decide (j ≤ i))) (tVar 2) (tPow 10 18)) tNil)))
      (tCons (tAdd K (tC (.int 1)) (tMod (tAdd K (tMul K (tVar 2) (tC (.int 69621))) (tMul K (tC (.int 86028121)) (tAdd K (tVar 1) (tC (.int 1))))) (tC (.int 2147483646)))) tNil)))))
theorem ev_pow (K : PySem.W.Frag) {a b z : Int} (e : powD (.int a) (.int b) = some (.int z)) : Ev (tPow a b) σ H (.int z) := ev_opI (d_pow (K := K)) ev_c ev_c e
theorem ev_asg {t : TE} {i : Nat} {v : V} {D : Ends} (h : Ev t σ H v) (q : ∀ H', Same H H' → D.nx (σ.set i (some v)) H') : tAsg t (gName i) D σ H := h H (Same.refl H) _ fun H2 s => q H2 s
theorem ev_if {t : TE} {b : Bool} {u v : TS} {D : Ends} (h : Ev t σ H (.bl b)) (q : ∀ H', Same H H' → if b = true then u D σ H' else v D σ H') : tIfS (tTest t) u v D σ H := h H (Same.refl H) _ fun H2 s => ⟨b, rfl, q H2 s⟩
theorem draws_tail {k z : Int} {D : Ends} (hk : 0 ≤ k ∧ k < 1000) (hz : 0 ≤ z ∧ z < 10 ^ 300) (h1 : σ[1]? = some (some (.int k))) (h2 : σ[2]? = some (some (.int z)))
    (q : ∀ p H', Same H H' → H p = none → H' p = some (.lst [.int (if 10 ^ 18 ≤ z then z else 0), .int (1 + (z * 69621 + 86028121 * (k + 1)) % 2147483646)]) → D.rt (.ref p) H') :
    tRet (tLst (tCons (tMul K (tVar 2) (tCB (fun xs H Q => (∃ i, xs = [.int i] ∧ Q (.int i) H) ∨ ∃ k, xs = [.bl k] ∧ Q (.int (if k then 1 else 0)) H) (tCons (tOp (rI0 fun i j => .bl (decide (j ≤ i))) (tVar 2) (tPow 10 18)) tNil)))
      (tCons (tAdd K (tC (.int 1)) (tMod (tAdd K (tMul K (tVar 2) (tC (.int 69621))) (tMul K (tC (.int 86028121)) (tAdd K (tVar 1) (tC (.int 1))))) (tC (.int 2147483646)))) tNil))) D σ H := by
  have e1 : Ev (tMul K (tVar 2) (tCB (fun xs H Q => (∃ i, xs = [.int i] ∧ Q (.int i) H) ∨ ∃ k, xs = [.bl k] ∧ Q (.int (if k then 1 else 0)) H) (tCons (tOp (rI0 fun i j => .bl (decide (j ≤ i))) (tVar 2) (tPow 10 18)) tNil))) σ H (.int (if 10 ^ 18 ≤ z then z else 0)) := by
    have e0 : Ev (tOp (rI0 fun i j => .bl (decide (j ≤ i))) (tVar 2) (tPow 10 18)) σ H (.bl (decide ((10 : Int) ^ 18 ≤ z))) := ev_opB (d_ge (K := K)) (ev_v h2) (ev_pow K rfl) rfl
    refine ev_opI d_mul (ev_v h2) (ev_intB e0) ?_
    rw [mul_wide (by omega) (by split <;> decide)]
    by_cases w : (10 : Int) ^ 18 ≤ z
    · rw [if_pos (decide_eq_true w), if_pos w, Int.mul_one]
    · rw [if_neg (by rw [decide_eq_true_eq]; exact w), if_neg w, Int.mul_zero]
  have e2 : Ev (tAdd K (tC (.int 1)) (tMod (tAdd K (tMul K (tVar 2) (tC (.int 69621))) (tMul K (tC (.int 86028121)) (tAdd K (tVar 1) (tC (.int 1))))) (tC (.int 2147483646)))) σ H (.int (1 + (z * 69621 + 86028121 * (k + 1)) % 2147483646)) :=
    ev_opI d_add ev_c (ev_opI (d_mod (K := K)) (ev_opI d_add (ev_opI d_mul (ev_v h2) ev_c (mul_wide (by omega) (by decide))) (ev_opI d_mul ev_c (ev_opI d_add (ev_v h1) ev_c rfl) (mul_big (by decide) (by decide))) rfl) ev_c rfl) rfl
  refine e1 H (Same.refl H) _ fun H1 s1 => ?_
  refine e2 H1 s1 _ fun H2 s2 => ?_
  refine ⟨by rw [sizeLine_eq]; show 2 ≤ _; decide, fun p np => ?_⟩
  have s12 := s1.trans s2
  exact q p _ (s12.trans (same_new np)) (s12.free np) upd_same
theorem draws_read {N : List Str} {a : Addr} {ns : List Int} {k : Int} {c : Dr} {D : Ends} (hN : N.length = 3) (hS : SqL K H a (ns.map V.int)) (hF : cellF ns k = some c)
    (q : ∀ p H', Same H H' → H p = none → H' p = some (.lst [.int c.1, .int c.2]) → D.rt (.ref p) H') : drawsT K D (L2.start N [.ref a, .int k]) H := by
  unfold cellF at hF
  split at hF
  · rename_i hk
    cases hF
    obtain ⟨k, rfl⟩ : ∃ j : Nat, k = (j : Int) := ⟨k.toNat, by omega⟩
    rw [Int.toNat_natCast] at q
    have g0 : (L2.start N [V.ref a, .int k])[0]? = some (some (.ref a)) := start_get rfl
    have g1 : (L2.start N [V.ref a, .int k])[1]? = some (some (.int k)) := start_get rfl
    have gl : (L2.start N [V.ref a, .int k]).length = 3 := by
      unfold L2.start
      rw [List.length_append, List.length_map, List.length_replicate, hN]
      rfl
    generalize L2.start N [V.ref a, .int k] = σ at g0 g1 gl
    refine ev_asg (ev_opI d_mul ev_c (ev_v g1) (mul_big (by decide) (by decide))) fun H1 s1 => ?_
    have st : ∀ v : V, (σ.set 2 (some v))[0]? = some (some (.ref a)) ∧ (σ.set 2 (some v))[1]? = some (some (.int k)) ∧ (σ.set 2 (some v))[2]? = some (some v) ∧ (σ.set 2 (some v)).set 2 = σ.set 2 := fun v =>
      ⟨by rw [List.getElem?_set_ne (by decide)]; exact g0, by rw [List.getElem?_set_ne (by decide)]; exact g1, List.getElem?_set_self (by rw [gl]; decide), by funext o; rw [List.set_set]⟩
    obtain ⟨h0, h1, h2, h3⟩ := st (.int (15485863 * k))
    have hS1 := sqL_keep hS (same_keep s1)
    have ci := cell0_lt ns k (by omega)
    refine ev_if (ev_opB (d_lt (K := K)) (ev_v h1) (ev_len h0 hS1) rfl) fun H2 s2 => ?_
    have hS2 := sqL_keep hS1 (same_keep s2)
    by_cases c1 : k < ns.length
    · rw [if_pos (decide_eq_true (by omega))]
      have ez : cell0 ns k = ns.getD k 0 % 10 ^ 300 := by unfold cell0; rw [if_pos c1]
      have p1 : Ev (tPow 10 60) (σ.set 2 (some (.int (15485863 * (k : Int))))) H2 (.int (10 ^ 60)) := ev_pow K rfl
      have p2 := ev_opI (d_mul (K := K)) p1 p1 (z := 10 ^ 120) (by rw [mul_wide (by decide +kernel) (by decide +kernel)]; congr 2)
      have p3 := ev_opI (d_mul (K := K)) p2 p1 (z := 10 ^ 180) (by rw [mul_wide (by decide +kernel) (by decide +kernel)]; congr 2)
      have p4 := ev_opI (d_mul (K := K)) p3 p1 (z := 10 ^ 240) (by rw [mul_wide (by decide +kernel) (by decide +kernel)]; congr 2)
      have p5 := ev_opI (d_mul (K := K)) p4 p1 (z := 10 ^ 300) (by rw [mul_wide (by decide +kernel) (by decide +kernel)]; congr 2)
      refine ev_asg (ev_opI (d_mod (K := K)) (ev_ix h0 hS2 (ev_v h1) c1) p5 (z := cell0 ns k) ?_) fun H3 s3 => ?_
      · rw [ez]
        show (if (0 : Int) < 10 ^ 300 then some (PyData.int (ns.getD k 0 % 10 ^ 300)) else none) = _
        rw [if_pos (by decide +kernel)]
      · rw [List.set_set]
        obtain ⟨_, z1, z2, _⟩ := st (.int (cell0 ns k))
        exact draws_tail ⟨by omega, by omega⟩ ci z1 z2 fun p H' s4 np hp => q p H' (s1.trans (s2.trans (s3.trans s4))) ((s1.trans (s2.trans s3)).free np) hp
    · rw [if_neg (by rw [decide_eq_true_eq]; omega)]
      refine ev_if (ev_opB (d_gt (K := K)) (ev_len h0 hS2) ev_c rfl) fun H3 s3 => ?_
      have hS3 := sqL_keep hS2 (same_keep s3)
      by_cases c2 : 0 < ns.length
      · rw [if_pos (decide_eq_true (by omega))]
        have ez : cell0 ns k = ns.getD (k % ns.length) 0 % 10 ^ 15 + 15485863 * (k : Int) := by unfold cell0; rw [if_neg c1, if_pos c2]
        have em : modD (.int (k : Int)) (.int (ns.length : Int)) = some (.int ((k % ns.length : Nat) : Int)) := by
          show (if (0 : Int) < ns.length then some (PyData.int ((k : Int) % (ns.length : Int))) else none) = _
          rw [if_pos (by omega)]
          rfl
        refine ev_asg (ev_opI d_add (ev_opI (d_mod (K := K)) (ev_ix h0 hS3 (ev_opI (d_mod (K := K)) (ev_v h1) (ev_len h0 hS3) em) (Nat.mod_lt _ c2)) (ev_pow K rfl) rfl) (ev_opI d_mul ev_c (ev_v h1) (mul_big (by decide) (by decide))) (z := cell0 ns k) (by rw [ez]; rfl)) fun H4 s4 => ?_
        rw [List.set_set]
        obtain ⟨_, z1, z2, _⟩ := st (.int (cell0 ns k))
        exact draws_tail ⟨by omega, by omega⟩ ci z1 z2 fun p H' s5 np hp => q p H' (s1.trans (s2.trans (s3.trans (s4.trans s5)))) ((s1.trans (s2.trans (s3.trans s4))).free np) hp
      · rw [if_neg (by rw [decide_eq_true_eq]; omega)]
        have ez : cell0 ns k = 15485863 * (k : Int) := by unfold cell0; rw [if_neg c1, if_neg c2]
        rw [ez] at q ci
        exact draws_tail ⟨by omega, by omega⟩ ci h1 h2 fun p H' s5 np hp => q p H' (s1.trans (s2.trans (s3.trans s5))) ((s1.trans (s2.trans s3)).free np) hp
  · cases hF
end
end DL
/-! DLn: the rules that name the fragment, with the fragment given. -/
namespace DL
open PySem PySem.Spec L2
section
variable {X : Cx} {K : PySem.W.Frag}
theorem op_addK (h : X.K = K) : OpR X (binaryOp .Add) (rAddA K) := by subst h; exact op_addA
theorem op_mulK (h : X.K = K) : OpR X (binaryOp .Mult) (rMulA K) := by subst h; exact op_mulA
theorem op_eqK (h : X.K = K) (hu : X.A.units + 64 < cLine) : OpR X (compareOp .Eq) (rEqD K) := by subst h; exact op_eqD hu
theorem op_neK (h : X.K = K) (hu : X.A.units + 64 < cLine) : OpR X (compareOp .NotEq) (rNeD K) := by subst h; exact op_neD hu
theorem ix_K (h : X.K = K) : IxR X (rIx K) := by subst h; exact ix_seq
theorem call_maxK (h : X.K = K) (hc : X.calm = true) : CallR X (.builtin "max") (rMaxA K) := by subst h; exact call_maxA hc
theorem call_minK (h : X.K = K) (hc : X.calm = true) : CallR X (.builtin "min") (rMinA K) := by subst h; exact call_minA hc
theorem cr_anyK (h : X.K = K) (hc : X.calm = true) : CallR X (.builtin "any") (rAny K) := by subst h; exact cr_any hc
theorem cr_allK (h : X.K = K) (hc : X.calm = true) : CallR X (.builtin "all") (rAll K) := by subst h; exact cr_all hc
theorem call_lenK (h : X.K = K) : CallR X (.builtin "len") (rLenS K) := by subst h; exact call_len_seq
theorem call_listK (h : X.K = K) : CallR X (.type "list") (fun xs H Q => ∃ p ys, xs = [.ref p] ∧ (SqL K H p ys ∨ SqT K H p ys) ∧ ∀ l, H l = none → Q (.ref l) (upd H l (.lst ys))) := by subst h; exact call_list_of
theorem call_tupleK (h : X.K = K) : CallR X (.type "tuple") (fun xs H Q => ∃ p ys, xs = [.ref p] ∧ ((SqL K H p ys ∧ ∀ l, H l = none → Q (.ref l) (upd H l (.tup ys))) ∨ (SqT K H p ys ∧ Q (.ref p) H))) := by subst h; exact call_tuple_of
theorem sl_K (h : X.K = K) : SlR X (rSlX K) := by subst h; exact sl_any
end
end DL
/-! DLo: order of tuples of ints. -/
namespace DL
open PySem PySem.Spec L2 PyProof.Rows
end DL
/-! DLp: t[::-1] of a tuple. -/
namespace DL
open PySem PySem.Spec L2 PyProof.Rows HT
section
variable {prog : Program} {w : World} {A : Around} {E : Value → Shared → Prop} {s : Shared}
end
def sRevA (a : SE) : SE := fun ρ c => (a ρ c).bind fun p => match p.1 with
  | .tuple xs => if few xs.length = true then some (.tuple xs.reverse, p.2) else none
  | _ => none
end DL
/-! DLq: sum, min, max of a tuple of ints. -/
namespace DL
open PySem PySem.Spec L2 PyProof.Rows
section
variable {prog : Program} {w : World} {A : Around} {E : Value → Shared → Prop} {s : Shared} {l : Addr} {xs : Array (Int × Tok)}
theorem iter_intTup {Q : Value → Shared → Prop} (hl : s.heap.IsTuple l (intItems xs))
    (h : ∀ s₂ : Shared, s₂ = { s with heap := s.heap.push { cls := .type "tuple_iterator", data := .fields #[.ref l, .int 0 0] } } →
      (s₂.heap.IsTupleIter s.heap.objs.size l 0 ∧ s₂.heap.IsTuple l (intItems xs)) → (∀ b ∈ [s.heap.objs.size, l], b < s₂.heap.objs.size) → l ≠ s.heap.objs.size → Q (.ref s.heap.objs.size) s₂) :
    wpAny (model prog w) A (pyIter (.ref l)) Q E s := by
  have hlt : l < s.heap.objs.size := by obtain ⟨_, e, _⟩ := hl; exact Heap.lt_size e
  refine wpAny_pyIter_tuple hl (h _ rfl ⟨⟨_, Heap.get?_push_size _ rfl, rfl, rfl⟩, hl.push _⟩ (fun b hb => ?_) (Nat.ne_of_lt hlt))
  show b < (s.heap.push _).objs.size
  rw [Heap.size_push]
  rcases List.mem_cons.mp hb with rfl | hb
  · exact Nat.lt_succ_self _
  · rcases List.mem_cons.mp hb with rfl | hb
    · exact Nat.lt_succ_of_lt hlt
    · cases hb
theorem old_keptT {h' : Heap} (hk : ∀ b o, b ∉ [s.heap.objs.size] → (s.heap.push { cls := .type "tuple_iterator", data := .fields #[.ref l, .int 0 0] }).get? b = some o → h'.get? b = some o) :
    ∀ b o, s.heap.get? b = some o → h'.get? b = some o := fun b o e => by
  refine hk b o (fun hm => ?_) (Heap.get?_push_of_some _ e)
  rcases List.mem_cons.mp hm with e1 | hm
  · exact absurd (e1 ▸ Heap.lt_size e) (Nat.lt_irrefl _)
  · cases hm
theorem max_intTup {Q : Value → Shared → Prop} (hh : A.handled = none) (hl : s.heap.IsTuple l (intItems xs)) (hne : 0 < xs.size)
    (h : ∀ v h' tk, (intItems xs)[argBest (fun i j => decide (numAt xs i > numAt xs j)) (xs.size - 1)]? = some v → (∀ b o, s.heap.get? b = some o → h'.get? b = some o) → Q v { s with heap := h', toks := tk }) :
    wpAny (model prog w) A (call (.builtin "max") [.ref l]) Q E s := by
  refine call_max_walk (iter_intTup hl fun s₂ e st hfp hlI => ?_)
  subst e
  exact ⟨_, _, _, _, _, _, _, rfl, Walks.tuple (A := A.in1) hh _ l hlI (intItems xs), st, hfp, by simpa [intItems] using hne, CmpOf.ints_gt (numAt xs) (fun _ _ => intItems_at), fun v h' tk hP hk => h v h' tk (by simpa [intItems] using hP) (old_keptT hk)⟩
theorem min_intTup {Q : Value → Shared → Prop} (hh : A.handled = none) (hl : s.heap.IsTuple l (intItems xs)) (hne : 0 < xs.size)
    (h : ∀ v h' tk, (intItems xs)[argBest (fun i j => decide (numAt xs i < numAt xs j)) (xs.size - 1)]? = some v → (∀ b o, s.heap.get? b = some o → h'.get? b = some o) → Q v { s with heap := h', toks := tk }) :
    wpAny (model prog w) A (call (.builtin "min") [.ref l]) Q E s := by
  refine call_min_walk (iter_intTup hl fun s₂ e st hfp hlI => ?_)
  subst e
  exact ⟨_, _, _, _, _, _, _, rfl, Walks.tuple (A := A.in1) hh _ l hlI (intItems xs), st, hfp, by simpa [intItems] using hne, CmpOf.ints_lt (numAt xs) (fun _ _ => intItems_at), fun v h' tk hP hk => h v h' tk (by simpa [intItems] using hP) (old_keptT hk)⟩
theorem sum_intTup {Q : Value → Shared → Prop} (hh : A.handled = none) (hl : s.heap.IsTuple l (intItems xs))
    (h : ∀ h' tk t', (∀ b o, s.heap.get? b = some o → h'.get? b = some o) → Q (.int (preSum (numAt xs) xs.size) t') { s with heap := h', toks := tk }) :
    wpAny (model prog w) A (call (.builtin "sum") [.ref l]) Q E s := by
  refine call_sum_walkG (iter_intTup hl fun s₂ e st hfp hlI => ?_)
  subst e
  refine ⟨_, _, _, _, _, _, numAt xs, rfl, Walks.tuple (A := A.in1) hh _ l hlI (intItems xs), st, hfp, (fun _ _ => intItems_at), fun h' tk t' hk => ?_⟩
  have := h h' tk t' (old_keptT hk)
  simpa [intItems] using this
variable {its : List Value} {ns : List Int} {Q : Value → Shared → Prop}
theorem sum_rawT (hh : A.handled = none) (hl : s.heap.IsTuple l its.toArray) (hi : IntsAre its ns)
    (h : ∀ h' tk t', (∀ b o, s.heap.get? b = some o → h'.get? b = some o) → Q (.int ns.sum t') { s with heap := h', toks := tk }) : wpAny (model prog w) A (call (.builtin "sum") [.ref l]) Q E s := by
  obtain ⟨xs, e⟩ := hi.allInts.items
  have hn : numsOf (intItems xs).toList = ns := by rw [← e]; exact hi.numsOf
  rw [nums_intItems] at hn
  rw [e] at hl
  refine sum_intTup hh hl fun h' tk t' hk => ?_
  have := h h' tk t' hk
  rw [preSum_eq, List.take_of_length_le (by simp), hn]; exact this
theorem max_rawT (hh : A.handled = none) (hl : s.heap.IsTuple l its.toArray) (hi : IntsAre its ns) (hne : 0 < ns.length)
    (h : ∀ h' tk M t', (∀ b o, s.heap.get? b = some o → h'.get? b = some o) → M ∈ ns → (∀ a, a ∈ ns → a ≤ M) → Q (.int M t') { s with heap := h', toks := tk }) : wpAny (model prog w) A (call (.builtin "max") [.ref l]) Q E s := by
  obtain ⟨xs, e⟩ := hi.allInts.items
  have hn : numsOf (intItems xs).toList = ns := by rw [← e]; exact hi.numsOf
  rw [nums_intItems] at hn
  subst hn
  rw [e] at hl
  have hsz : 0 < xs.size := by simpa using hne
  refine max_intTup hh hl hsz fun v h' tk hv hk => ?_
  obtain ⟨t, rfl⟩ := intItems_at hv
  obtain ⟨h1, h2⟩ := argBest_gt (numAt xs) (xs.size - 1)
  refine h h' tk _ t hk ?_ fun a ha => ?_
  · rw [numAt_eq]; exact PySem.getD_mem (by rw [List.length_map, Array.length_toList]; omega)
  · obtain ⟨j, hj, rfl⟩ := mem_getD ha
    rw [List.length_map, Array.length_toList] at hj
    rw [← numAt_eq]; exact h2 j (by omega)
theorem min_rawT (hh : A.handled = none) (hl : s.heap.IsTuple l its.toArray) (hi : IntsAre its ns) (hne : 0 < ns.length)
    (h : ∀ h' tk M t', (∀ b o, s.heap.get? b = some o → h'.get? b = some o) → M ∈ ns → (∀ a, a ∈ ns → M ≤ a) → Q (.int M t') { s with heap := h', toks := tk }) : wpAny (model prog w) A (call (.builtin "min") [.ref l]) Q E s := by
  obtain ⟨xs, e⟩ := hi.allInts.items
  have hn : numsOf (intItems xs).toList = ns := by rw [← e]; exact hi.numsOf
  rw [nums_intItems] at hn
  subst hn
  rw [e] at hl
  have hsz : 0 < xs.size := by simpa using hne
  refine min_intTup hh hl hsz fun v h' tk hv hk => ?_
  obtain ⟨t, rfl⟩ := intItems_at hv
  obtain ⟨h1, h2⟩ := argBest_lt (numAt xs) (xs.size - 1)
  refine h h' tk _ t hk ?_ fun a ha => ?_
  · rw [numAt_eq]; exact PySem.getD_mem (by rw [List.length_map, Array.length_toList]; omega)
  · obtain ⟨j, hj, rfl⟩ := mem_getD ha
    rw [List.length_map, Array.length_toList] at hj
    rw [← numAt_eq]; exact h2 j (by omega)
end
section
variable {K : PySem.W.Frag} {X : Cx}
abbrev SqA (K : PySem.W.Frag) (H : Hp) (a : Addr) (xs : List V) : Prop := SqL K H a xs ∨ SqT K H a xs
def rSumA (K : PySem.W.Frag) : List V → Hp → VK → Prop := fun vs H Q => ∃ (a : Addr) (ns : List Int), vs = [V.ref a] ∧ SqA K H a (ns.map V.int) ∧ Q (.int ns.sum) H
theorem cr_sumA (h : X.K = K) (hc : X.calm = true) : CallR X (.builtin "sum") (rSumA K) := by
  subst h
  intro pins s σ H vs us Q I r h
  obtain ⟨a, ns, rfl, hs | hs, q⟩ := h
  · obtain ⟨its, rv, hl, _⟩ := I.list hs
    rw [Vals.ref1 r]
    exact sum_raw (I.ok.hd hc) hl.isList rv.ints fun h' tk t' hk => ⟨.int _, H, I.kept hk, ⟨_, rfl⟩, q⟩
  · obtain ⟨its, rv, hl, _⟩ := I.tuple hs
    rw [Vals.ref1 r]
    exact sum_rawT (I.ok.hd hc) hl rv.ints fun h' tk t' hk => ⟨.int _, H, I.kept hk, ⟨_, rfl⟩, q⟩
def rMaxS (K : PySem.W.Frag) : List V → Hp → VK → Prop := fun vs H Q => (∃ (a : Addr) (ns : List Int), vs = [V.ref a] ∧ SqA K H a (ns.map V.int) ∧ 0 < ns.length ∧ ∀ m, m ∈ ns → (∀ y, y ∈ ns → y ≤ m) → Q (.int m) H) ∨ (∃ i j, vs = [.int i, .int j] ∧ Q (.int (if j > i then j else i)) H)
def rMinS (K : PySem.W.Frag) : List V → Hp → VK → Prop := fun vs H Q => (∃ (a : Addr) (ns : List Int), vs = [V.ref a] ∧ SqA K H a (ns.map V.int) ∧ 0 < ns.length ∧ ∀ m, m ∈ ns → (∀ y, y ∈ ns → m ≤ y) → Q (.int m) H) ∨ (∃ i j, vs = [.int i, .int j] ∧ Q (.int (if j < i then j else i)) H)
theorem cr_maxS (h : X.K = K) (hc : X.calm = true) : CallR X (.builtin "max") (rMaxS K) := by
  subst h
  intro pins s σ H vs us Q I r h
  rcases h with ⟨a, ns, rfl, hs | hs, hne, q⟩ | h
  · obtain ⟨its, rv, hl, _⟩ := I.list hs
    rw [Vals.ref1 r]
    exact max_raw (I.ok.hd hc) hl.isList rv.ints hne fun h' tk m t' hk h1 h2 => ⟨.int _, H, I.kept hk, ⟨_, rfl⟩, q m h1 h2⟩
  · obtain ⟨its, rv, hl, _⟩ := I.tuple hs
    rw [Vals.ref1 r]
    exact max_rawT (I.ok.hd hc) hl rv.ints hne fun h' tk m t' hk h1 h2 => ⟨.int _, H, I.kept hk, ⟨_, rfl⟩, q m h1 h2⟩
  · exact call_max2 hc pins s σ H vs us Q I r h
theorem cr_minS (h : X.K = K) (hc : X.calm = true) : CallR X (.builtin "min") (rMinS K) := by
  subst h
  intro pins s σ H vs us Q I r h
  rcases h with ⟨a, ns, rfl, hs | hs, hne, q⟩ | h
  · obtain ⟨its, rv, hl, _⟩ := I.list hs
    rw [Vals.ref1 r]
    exact min_raw (I.ok.hd hc) hl.isList rv.ints hne fun h' tk m t' hk h1 h2 => ⟨.int _, H, I.kept hk, ⟨_, rfl⟩, q m h1 h2⟩
  · obtain ⟨its, rv, hl, _⟩ := I.tuple hs
    rw [Vals.ref1 r]
    exact min_rawT (I.ok.hd hc) hl rv.ints hne fun h' tk m t' hk h1 h2 => ⟨.int _, H, I.kept hk, ⟨_, rfl⟩, q m h1 h2⟩
  · exact call_min2 hc pins s σ H vs us Q I r h
/-- the ints of a list or tuple -/
def seqI : D → Option (List Int)
  | .list xs => intsD xs
  | .tuple xs => intsD xs
  | _ => none
theorem seqI_ok {B H : Hp} {x : V} {d : D} {ns : List Int} (s : Same B H) (h : Dp K B x d) (e : seqI d = some ns) : ∃ a, x = .ref a ∧ SqA K H a (ns.map V.int) := by
  cases d with
  | list xs =>
    obtain ⟨a, vs, rfl, g1, g2⟩ := dp_list h
    exact ⟨a, rfl, .inl (by rw [← ints_ok g2 e]; exact SqL.of (s _ _ g1))⟩
  | tuple xs =>
    obtain ⟨a, vs, rfl, g1, g2⟩ := dp_tuple h
    exact ⟨a, rfl, .inr (by rw [← ints_ok g2 e]; exact SqT.of (s _ _ g1))⟩
  | _ => cases e
def sumA : List D → Option D
  | [d] => (seqI d).map fun ns => .int ns.sum
  | _ => none
theorem d_sumA : CallD K (rSumA K) sumA := fun B H xs ds z Q s hx h q => by
  unfold sumA at h
  split at h
  · obtain ⟨ns, e1, e2⟩ := Option.map_eq_some_iff.mp h
    subst e2
    obtain ⟨x, rfl, h1⟩ := dpAll_1 hx
    obtain ⟨a, rfl, g⟩ := seqI_ok s h1 e1
    exact ⟨a, ns, rfl, g, q _ B H (Grow.refl s) (.int _)⟩
  · cases h
def maxS : List D → Option D
  | [.int i, .int j] => some (.int (max i j))
  | [d] => (seqI d).bind fun ns => if ns = [] then none else some (.int (maxL ns))
  | _ => none
def minS : List D → Option D
  | [.int i, .int j] => some (.int (min i j))
  | [d] => (seqI d).bind fun ns => if ns = [] then none else some (.int (minL ns))
  | _ => none
theorem d_maxS : CallD K (rMaxS K) maxS := fun B H xs ds z Q s hx h q => by
  unfold maxS at h
  split at h
  · cases h
    obtain ⟨x, y, rfl, h1, h2⟩ := dpAll_2 hx
    rw [dp_int h1, dp_int h2]
    refine .inr ⟨_, _, rfl, ?_⟩
    have e : ∀ i j : Int, (if j > i then j else i) = max i j := fun i j => by split <;> omega
    rw [e]
    exact q _ B H (Grow.refl s) (.int _)
  · obtain ⟨ns, e1, e2⟩ := Option.bind_eq_some_iff.mp h
    split at e2
    · cases e2
    · rename_i hne
      cases e2
      obtain ⟨x, rfl, h1⟩ := dpAll_1 hx
      obtain ⟨a, rfl, g⟩ := seqI_ok s h1 e1
      obtain ⟨m1, m2⟩ := maxL_spec hne
      refine .inl ⟨a, ns, rfl, g, List.length_pos_iff.mpr hne, fun m k1 k2 => ?_⟩
      have : m = maxL ns := Int.le_antisymm (m2 m k1) (k2 _ m1)
      rw [this]
      exact q _ B H (Grow.refl s) (.int _)
  · cases h
theorem d_minS : CallD K (rMinS K) minS := fun B H xs ds z Q s hx h q => by
  unfold minS at h
  split at h
  · cases h
    obtain ⟨x, y, rfl, h1, h2⟩ := dpAll_2 hx
    rw [dp_int h1, dp_int h2]
    refine .inr ⟨_, _, rfl, ?_⟩
    have e : ∀ i j : Int, (if j < i then j else i) = min i j := fun i j => by split <;> omega
    rw [e]
    exact q _ B H (Grow.refl s) (.int _)
  · obtain ⟨ns, e1, e2⟩ := Option.bind_eq_some_iff.mp h
    split at e2
    · cases e2
    · rename_i hne
      cases e2
      obtain ⟨x, rfl, h1⟩ := dpAll_1 hx
      obtain ⟨a, rfl, g⟩ := seqI_ok s h1 e1
      obtain ⟨m1, m2⟩ := minL_spec hne
      refine .inl ⟨a, ns, rfl, g, List.length_pos_iff.mpr hne, fun m k1 k2 => ?_⟩
      have : m = minL ns := Int.le_antisymm (k2 _ m1) (m2 m k1)
      rw [this]
      exact q _ B H (Grow.refl s) (.int _)
  · cases h
end
end DL
/-! DLr: sorted(set(t)) of a tuple of ints. -/
namespace DL
open PySem PySem.Spec L2 PyProof.Rows
/-- each once, from the least on -/
def insU (x : Int) : List Int → List Int
  | [] => [x]
  | y :: ys => if x < y then x :: y :: ys else if x = y then y :: ys else y :: insU x ys
def sortU : List Int → List Int
  | [] => []
  | x :: xs => insU x (sortU xs)
theorem mem_insU {x k : Int} : ∀ {ys : List Int}, k ∈ insU x ys ↔ k = x ∨ k ∈ ys
  | [] => by simp [insU]
  | y :: ys => by
    unfold insU
    split
    · simp
    · split
      · rename_i h; subst h; simp
      · rw [List.mem_cons, mem_insU (ys := ys), List.mem_cons]
        constructor
        · rintro (h | h | h)
          · exact .inr (.inl h)
          · exact .inl h
          · exact .inr (.inr h)
        · rintro (h | h | h)
          · exact .inr (.inl h)
          · exact .inl h
          · exact .inr (.inr h)
theorem mem_sortU {k : Int} : ∀ {xs : List Int}, k ∈ sortU xs ↔ k ∈ xs
  | [] => by simp [sortU]
  | x :: xs => by
    show k ∈ insU x (sortU xs) ↔ _
    rw [mem_insU, mem_sortU, List.mem_cons]
theorem insU_lt {x : Int} : ∀ {ys : List Int}, ys.Pairwise (· < ·) → (insU x ys).Pairwise (· < ·)
  | [], _ => by simp [insU]
  | y :: ys, h => by
    obtain ⟨h1, h2⟩ := List.pairwise_cons.mp h
    unfold insU
    split
    · rename_i hx
      refine List.pairwise_cons.mpr ⟨fun z hz => ?_, h⟩
      rcases List.mem_cons.mp hz with w | w
      · rw [w]; exact hx
      · exact Int.lt_trans hx (h1 z w)
    · split
      · exact h
      · rename_i n1 n2
        refine List.pairwise_cons.mpr ⟨fun z hz => ?_, insU_lt h2⟩
        rcases mem_insU.mp hz with w | w
        · omega
        · exact h1 z w
theorem sortU_lt : ∀ xs : List Int, (sortU xs).Pairwise (· < ·)
  | [] => List.Pairwise.nil
  | x :: xs => insU_lt (sortU_lt xs)
theorem lt_unique : ∀ {xs ys : List Int}, xs.Pairwise (· < ·) → ys.Pairwise (· < ·) → (∀ k, k ∈ xs ↔ k ∈ ys) → xs = ys
  | [], [], _, _, _ => rfl
  | [], y :: ys, _, _, h => absurd ((h y).mpr List.mem_cons_self) (by simp)
  | x :: xs, [], _, _, h => absurd ((h x).mp List.mem_cons_self) (by simp)
  | x :: xs, y :: ys, h1, h2, h => by
    obtain ⟨a1, a2⟩ := List.pairwise_cons.mp h1
    obtain ⟨b1, b2⟩ := List.pairwise_cons.mp h2
    have e : x = y := by
      rcases List.mem_cons.mp ((h x).mp List.mem_cons_self) with w | w
      · exact w
      · rcases List.mem_cons.mp ((h y).mpr List.mem_cons_self) with v | v
        · exact v.symm
        · have := b1 x w
          have := a1 y v
          omega
    subst e
    rw [lt_unique a2 b2 fun k => ?_]
    constructor
    · intro hk
      rcases List.mem_cons.mp ((h k).mp (List.mem_cons_of_mem _ hk)) with w | w
      · subst w; exact absurd (a1 k hk) (by omega)
      · exact w
    · intro hk
      rcases List.mem_cons.mp ((h k).mpr (List.mem_cons_of_mem _ hk)) with w | w
      · subst w; exact absurd (b1 k hk) (by omega)
      · exact w
theorem dpAll_ints {K : PySem.W.Frag} {B : Hp} : ∀ ns : List Int, DpAll K B (ns.map V.int) (ns.map PyData.int)
  | [] => .nil
  | n :: ns => .cons (.int n) (dpAll_ints ns)
theorem pg_tupK {X : Cx} {K : PySem.W.Frag} {es : List Expr} {k : Nat} {t : TGs} {n : Nat} {pos : Pos} (hK : X.K = K) (hc : X.calm = true) (h : PGs X es t)
    (hn : (assignEach es X.env).length = n := by rfl) (hst : (assignEach es X.env).findIdx? (·.1) = none := by rfl) : PG X (.Tuple es k pos) (gTup K n t) := by
  subst hK; exact pg_tup hc h hn hst
theorem pi_listK {X : Cx} {K : PySem.W.Frag} {tg l : Expr} {tl : TE} (hK : X.K = K) (hl : PE X l tl) : PI X tg l (iList K tl) := by subst hK; exact pi_list hl
theorem pi_tupleK {X : Cx} {K : PySem.W.Frag} {tg l : Expr} {tl : TE} (hK : X.K = K) (hl : PE X l tl) : PI X tg l (iTup K tl) := by subst hK; exact pi_tup hl
end DL
/-! DLs: comprehensions with two fors; pop; dicts asked for their least key; remainders by any sign. -/
namespace DL
open PySem PySem.Spec L2
section
variable {K : PySem.W.Frag}
/-- a list that no slot owns is changed -/
theorem Rl.poke {ad : Option Addr} {B H : Hp} {σ : L2.St} {ρ : Rho} {c : Dr} (r : Rl K ad B σ H ρ c) {a : Addr} {acc acc' : List V} (no : ¬ Owned ρ σ a) (ha : H a = some (.lst acc)) (nb : B a = none) (na : ad ≠ some a) :
    Rl K ad B σ (upd H a (.lst acc')) ρ c := by
  have other : ∀ (j : Nat) (t : Sl) (b : Addr), ρ[j]? = some t → σ[j]? = some (some (.ref b)) → owns t = true → b ≠ a := fun j t b e1 e2 e3 z => by
    subst z; exact no ⟨j, t, e1, e3, e2⟩
  refine ⟨fun b o q => ?_, fun b q => ?_, r.cfree, r.len, fun j t e1 => ?_, r.sep⟩
  · rw [upd_ne (fun z => by subst z; rw [nb] at q; cases q)]; exact r.sub b o q
  · rw [upd_ne (fun z => by subst z; exact na q)]; exact r.cell b q
  · have q := r.slot j t e1
    cases t with
    | un => trivial
    | im d => exact q
    | ol xs =>
      obtain ⟨b, us, g1, g2, g3, g4, g5⟩ := q
      exact ⟨b, us, g1, by rw [upd_ne (other j _ b e1 g1 rfl)]; exact g2, g3, g4, g5⟩
    | od xs =>
      obtain ⟨b, us, g1, g2, g3, g4, g5⟩ := q
      exact ⟨b, us, g1, by rw [upd_ne (other j _ b e1 g1 rfl)]; exact g2, g3, g4, g5⟩
    | fd xs =>
      obtain ⟨b, w, us, g1, g2, g3, g4, g5⟩ := q
      refine ⟨b, w, us, g1, ?_, g3, g4, g5⟩
      rw [upd_ne (fun z => by subst z; rw [ha] at g2; cases g2)]
      exact g2
    | op v => exact q
    | dr => exact q
theorem delH_upd' {H : Hp} {a : Addr} {o : HO} : delH (upd H a o) a = delH H a := by
  funext b
  by_cases z : b = a
  · subst z; rw [delH_self, delH_self]
  · rw [delH_ne z, delH_ne z, upd_ne z]
theorem Fw.nB {ad : Option Addr} {c' : Dr} {B H B' H' : Hp} {a : Addr} {o : HO} (x : Fw ad c' B H B' H') (n : B a = none) (h : H a = some o) : B' a = none := by
  cases z : B' a with
  | none => rfl
  | some u =>
    have := x.fresh a u z n
    rw [h] at this; cases this
/-! ### two fors -/
def lcS2 (g : D → Rho → Option Rho) (t : SB) (f1 : SI) (g1 : D → Rho → Option Rho) (t1 : SB) (e : SE) (ρ0 : Rho) (vs1 : List Nat) : List D → Dr → Option (List D × Dr)
  | [], c => some ([], c)
  | x :: xs, c => (g x ρ0).bind fun ρ1 => (t ρ1 c).bind fun p => if p.1 = true then (f1 ρ1 p.2).bind fun q => (lcS g1 t1 e (wipeR ρ1 vs1) q.1 q.2).bind fun r => (lcS2 g t f1 g1 t1 e ρ0 vs1 xs r.2).bind fun u => some (r.1 ++ u.1, u.2) else lcS2 g t f1 g1 t1 e ρ0 vs1 xs p.2
def sLc2 (f : SI) (g : D → Rho → Option Rho) (t : SB) (f1 : SI) (g1 : D → Rho → Option Rho) (t1 : SB) (e : SE) (vs vs1 : List Nat) : SL := fun ρ c => (f ρ c).bind fun p => (lcS2 g t f1 g1 t1 e (wipeR ρ vs) vs1 p.1 p.2).bind fun q => if few q.1.length = true then some q else none
theorem wipe_idem {σ : L2.St} {vs : List Nat} : wipe (wipe σ vs) vs = wipe σ vs := by
  have one : ∀ (u : Nat) (ws : List Nat), u ∈ ws → (wipe σ ws).set u none = wipe σ ws := by
    intro u ws
    induction ws with
    | nil => intro h; cases h
    | cons w ws ih =>
      intro h
      show ((wipe σ ws).set w none).set u none = (wipe σ ws).set w none
      by_cases e : u = w
      · subst e; rw [List.set_set]
      · have hm : u ∈ ws := by
          rcases List.mem_cons.mp h with z | z
          · exact absurd z e
          · exact z
        rw [List.set_comm _ _ (Ne.symm e), ih hm]
  have key : ∀ us : List Nat, (∀ u ∈ us, u ∈ vs) → wipe (wipe σ vs) us = wipe σ vs := by
    intro us
    induction us with
    | nil => intro _; rfl
    | cons u us ih =>
      intro hs
      show (wipe (wipe σ vs) us).set u none = wipe σ vs
      rw [ih fun w hw => hs w (List.mem_cons_of_mem _ hw)]
      exact one u vs (hs u List.mem_cons_self)
  exact key vs fun u h => h
theorem imp_lc2 {wi wi1 : TI} {tg tg1 : TG} {tt tt1 : TT} {te : TE} {f f1 : SI} {g g1 : D → Rho → Option Rho} {t t1 : SB} {e : SE} {vs vs1 : List Nat} (hf : ImpI K wi f) (hg : ImpG K tg g) (ho : OnlyG tg vs) (mn : MonoG tg) (ht : ImpT K tt t)
    (hf1 : ImpI K wi1 f1) (hg1 : ImpG K tg1 g1) (ho1 : OnlyG tg1 vs1) (mn1 : MonoG tg1) (ht1 : ImpT K tt1 t1) (he : ImpE K te e) :
    ImpL K (tLc2 wi tg tt wi1 tg1 tt1 te vs vs1) (sLc2 f g t f1 g1 t1 e vs vs1) := fun ad B σ H ρ c ds c' Q R h q => by
  obtain ⟨⟨xs, c1⟩, e1, e2⟩ := Option.bind_eq_some_iff.mp h
  obtain ⟨⟨ds', c2⟩, e3, e4⟩ := Option.bind_eq_some_iff.mp e2
  have e4 : (if few ds'.length = true then some (ds', c2) else none) = some (ds, c') := e4
  by_cases hz : few ds'.length = true
  · rw [if_pos hz] at e4
    cases e4
    have hz' := few_ok hz
    have e3 : lcS2 g t f1 g1 t1 e (wipeR ρ vs) vs1 xs c1 = some (ds, c') := e3
    refine hf ad B σ H ρ c xs c1 _ R e1 fun J B1 H1 x wk => ?_
    intro Dl hD
    have R1 := R.fw x
    have nB1 : B1 Dl = none := R1.sub.free hD
    have nad : ad ≠ some Dl := fun z => by rw [R1.cell Dl z] at hD; cases hD
    refine ⟨fun i m H' => m = xs.length - i ∧ i ≤ xs.length ∧ ∃ (B' : Hp) (cc : Dr) (acc : List V) (done rest : List D), H' Dl = some (.lst acc) ∧ DpAll K B' acc done ∧ Fw ad cc B1 H1 B' (delH H' Dl) ∧ lcS2 g t f1 g1 t1 e (wipeR ρ vs) vs1 (xs.drop i) cc = some (rest, c') ∧ ds = done ++ rest,
      ⟨xs.length, by rw [Nat.sub_zero], Nat.zero_le _, B1, c1, [], [], ds, upd_same, .nil, by rw [delH_upd hD]; exact R1.fwRefl, by rw [List.drop_zero]; exact e3, rfl⟩, fun i m H' hW => ?_⟩
    obtain ⟨rfl, hi, B', cc, acc, done, rest, hDl, dacc, y, e', ed⟩ := hW
    have nB' : B' Dl = none := by
      cases z : B' Dl with
      | none => rfl
      | some u =>
        have := y.bh Dl u z
        rw [delH_self] at this; cases this
    have sB' : Same B' H' := y.bh.trans same_delH
    obtain ⟨w1, w2⟩ := wk B' H' y.bb sB'
    by_cases hlt : i < xs.length
    · obtain ⟨go, yl⟩ := w2 i _ (List.getElem?_eq_getElem hlt)
      rw [List.drop_eq_getElem_cons hlt] at e'
      obtain ⟨ρ2, e5, e6⟩ := Option.bind_eq_some_iff.mp e'
      obtain ⟨⟨b, c3⟩, e7, e8⟩ := Option.bind_eq_some_iff.mp e6
      refine .inr ⟨go, fun H2 => xs.length - (i + 1) = xs.length - (i + 1) ∧ i + 1 ≤ xs.length ∧ ∃ (B' : Hp) (cc : Dr) (acc : List V) (done rest : List D), H2 Dl = some (.lst acc) ∧ DpAll K B' acc done ∧ Fw ad cc B1 H1 B' (delH H2 Dl) ∧ lcS2 g t f1 g1 t1 e (wipeR ρ vs) vs1 (xs.drop (i + 1)) cc = some (rest, c') ∧ ds = done ++ rest, fun H2 h2 => ⟨xs.length - (i + 1), by omega, h2⟩, fun v H3 hv => ?_⟩
      obtain ⟨B3, gr, dv⟩ := yl v H3 hv
      have hDl3 : H3 Dl = some (.lst acc) := gr.hh Dl _ hDl
      have cell' : ∀ a, ad = some a → H' a = some (.lst [.int cc.1, .int cc.2]) := fun a z => same_delH a _ (y.cell a z)
      have x3 : Fw ad cc B' H' B3 H3 := gr.fw cell'
      have R0 : Rl K ad B' (wipe σ vs) (delH H' Dl) (wipeR ρ vs) cc := (R1.fw y).wiped vs
      have R' : Rl K ad B' (wipe σ vs) H' (wipeR ρ vs) cc := R0.up same_delH
      have R3 := R'.fw x3
      have nB3 : B3 Dl = none := x3.nB nB' hDl
      have y3 : Fw ad cc B1 H1 B3 (delH H3 Dl) := R1.trans y (x3.del nB' hDl nad)
      have no0 : ¬ Owned (wipeR ρ vs) (wipe σ vs) Dl := fun z => by
        obtain ⟨_, _, o, q⟩ := R0.ownB z
        rw [delH_self] at q; cases q
      have on := ho v (wipe σ vs) H3 _ (hg ad B3 (wipe σ vs) H3 (wipeR ρ vs) cc v _ ρ2 (fun σ4 H4 => H4 = H3 ∧ Rl K ad B3 σ4 H3 ρ2 cc ∧ ¬ Owned ρ2 σ4 Dl) R3 dv e5 fun σ4 R4 y4 => ⟨rfl, R4, fun z => by
        rcases y4.own Dl z with w | w
        · exact no0 w
        · rw [hDl3] at w; cases w⟩)
      refine mn _ _ _ _ _ (fun σ4 H4 h4 => ?_) on
      obtain ⟨⟨rfl, R4, no4⟩, ew⟩ := h4
      refine ⟨ew.trans wipe_idem, ?_⟩
      refine ht ad B3 σ4 H4 ρ2 cc b c3 _ R4 e7 fun B5 H5 x5 => ?_
      have R5 := R4.fw x5
      have hDl5 : H5 Dl = some (.lst acc) := x5.keep Dl _ nad hDl3
      have nB5 : B5 Dl = none := x5.nB nB3 hDl3
      have y5 : Fw ad c3 B1 H1 B5 (delH H5 Dl) := R1.trans y3 (x5.del nB3 hDl3 nad)
      have d5 : DpAll K B5 acc done := dpAll_mono (gr.bb.trans x5.bb) _ _ dacc
      cases b with
      | false =>
        rw [if_neg Bool.false_ne_true]
        have e8' : lcS2 g t f1 g1 t1 e (wipeR ρ vs) vs1 (xs.drop (i + 1)) c3 = some (rest, c') := e8
        exact ⟨rfl, hlt, B5, c3, acc, done, rest, hDl5, d5, y5, e8', ed⟩
      | true =>
        rw [if_pos rfl]
        have e8' : ((f1 ρ2 c3).bind fun q => (lcS g1 t1 e (wipeR ρ2 vs1) q.1 q.2).bind fun r => (lcS2 g t f1 g1 t1 e (wipeR ρ vs) vs1 (xs.drop (i + 1)) r.2).bind fun u => some (r.1 ++ u.1, u.2)) = some (rest, c') := e8
        obtain ⟨⟨ys, c6⟩, e9, e10⟩ := Option.bind_eq_some_iff.mp e8'
        obtain ⟨⟨r1, c7⟩, e11, e12⟩ := Option.bind_eq_some_iff.mp e10
        obtain ⟨⟨r2, c8⟩, e13, e14⟩ := Option.bind_eq_some_iff.mp e12
        cases e14
        have e11 : lcS g1 t1 e (wipeR ρ2 vs1) ys c6 = some (r1, c7) := e11
        have e13 : lcS2 g t f1 g1 t1 e (wipeR ρ vs) vs1 (xs.drop (i + 1)) c7 = some (r2, c8) := e13
        refine hf1 ad B5 σ4 H5 ρ2 c3 ys c6 _ R5 e9 fun J1 B6 H6 x6 wk6 => ?_
        have R6 := R5.fw x6
        have hDl6 : H6 Dl = some (.lst acc) := x6.keep Dl _ nad hDl5
        have nB6 : B6 Dl = none := x6.nB nB5 hDl5
        have y6 : Fw ad c6 B1 H1 B6 (delH H6 Dl) := R1.trans y5 (x6.del nB5 hDl5 nad)
        refine ⟨fun j k H' => k = ys.length - j ∧ j ≤ ys.length ∧ ∃ (B' : Hp) (cc : Dr) (acc : List V) (done rest : List D), H' Dl = some (.lst acc) ∧ DpAll K B' acc done ∧ Fw ad cc B1 H1 B' (delH H' Dl) ∧ B' Dl = none ∧ Same B6 B' ∧ Rl K ad B' σ4 H' ρ2 cc ∧ lcS g1 t1 e (wipeR ρ2 vs1) (ys.drop j) cc = some (rest, c7) ∧ ds = done ++ (rest ++ r2),
          ⟨ys.length, by rw [Nat.sub_zero], Nat.zero_le _, B6, c6, acc, done, r1, hDl6, dpAll_mono x6.bb _ _ d5, y6, nB6, Same.refl B6, R6, by rw [List.drop_zero]; exact e11, ed⟩, fun j k H7 hW1 => ?_⟩
        obtain ⟨rfl, hj, B7, c9, acc7, done7, rest7, hDl7, dacc7, y7, nB7, s67, R7, e7', ed7⟩ := hW1
        obtain ⟨v1, v2⟩ := wk6 B7 H7 s67 R7.sub
        by_cases hlt1 : j < ys.length
        · obtain ⟨go1, yl1⟩ := v2 j _ (List.getElem?_eq_getElem hlt1)
          rw [List.drop_eq_getElem_cons hlt1] at e7'
          obtain ⟨ρ3, f3, f4⟩ := Option.bind_eq_some_iff.mp e7'
          obtain ⟨⟨b1, c10⟩, f5, f6⟩ := Option.bind_eq_some_iff.mp f4
          refine .inr ⟨go1, fun H2 => ys.length - (j + 1) = ys.length - (j + 1) ∧ j + 1 ≤ ys.length ∧ ∃ (B' : Hp) (cc : Dr) (acc : List V) (done rest : List D), H2 Dl = some (.lst acc) ∧ DpAll K B' acc done ∧ Fw ad cc B1 H1 B' (delH H2 Dl) ∧ B' Dl = none ∧ Same B6 B' ∧ Rl K ad B' σ4 H2 ρ2 cc ∧ lcS g1 t1 e (wipeR ρ2 vs1) (ys.drop (j + 1)) cc = some (rest, c7) ∧ ds = done ++ (rest ++ r2), fun H2 h2 => ⟨ys.length - (j + 1), by omega, h2⟩, fun u H8 hu => ?_⟩
          obtain ⟨B8, gr8, du⟩ := yl1 u H8 hu
          have x8 : Fw ad c9 B7 H7 B8 H8 := gr8.fw R7.cell
          have hDl8 : H8 Dl = some (.lst acc7) := gr8.hh Dl _ hDl7
          have nB8 : B8 Dl = none := x8.nB nB7 hDl7
          have R8 := (R7.fw x8).wiped vs1
          have on1 := ho1 u (wipe σ4 vs1) H8 _ (hg1 ad B8 (wipe σ4 vs1) H8 (wipeR ρ2 vs1) c9 u _ ρ3 (fun σ5 H9 => H9 = H8 ∧ Rl K ad B8 σ5 H8 ρ3 c9) R8 du f3 fun σ5 R9 _ => ⟨rfl, R9⟩)
          refine mn1 _ _ _ _ _ (fun σ5 H9 h9 => ?_) on1
          obtain ⟨⟨rfl, R9⟩, ew1⟩ := h9
          refine ⟨ew1.trans wipe_idem, ?_⟩
          refine ht1 ad B8 σ5 H9 ρ3 c9 b1 c10 _ R9 f5 fun B10 H10 x10 => ?_
          have R10 := R9.fw x10
          have hDl10 : H10 Dl = some (.lst acc7) := x10.keep Dl _ nad hDl8
          have nB10 : B10 Dl = none := x10.nB nB8 hDl8
          have x810 : Fw ad c10 B7 H7 B10 H10 := R7.trans x8 x10
          have y10 : Fw ad c10 B1 H1 B10 (delH H10 Dl) := R1.trans y7 (x810.del nB7 hDl7 nad)
          cases b1 with
          | false =>
            rw [if_neg Bool.false_ne_true]
            have f6' : lcS g1 t1 e (wipeR ρ2 vs1) (ys.drop (j + 1)) c10 = some (rest7, c7) := f6
            exact ⟨rfl, hlt1, B10, c10, acc7, done7, rest7, hDl10, dpAll_mono x810.bb _ _ dacc7, y10, nB10, s67.trans x810.bb, R7.fw x810, f6', ed7⟩
          | true =>
            rw [if_pos rfl]
            have f6' : ((e ρ3 c10).bind fun q => (lcS g1 t1 e (wipeR ρ2 vs1) (ys.drop (j + 1)) q.2).bind fun r => some (q.1 :: r.1, r.2)) = some (rest7, c7) := f6
            obtain ⟨⟨d11, c11⟩, f7, f8⟩ := Option.bind_eq_some_iff.mp f6'
            obtain ⟨⟨rest', c12⟩, f9, f10⟩ := Option.bind_eq_some_iff.mp f8
            cases f10
            refine he ad B10 σ5 H10 ρ3 c10 d11 c11 _ R10 f7 fun w B11 H11 x11 dw => ?_
            have hDl11 : H11 Dl = some (.lst acc7) := x11.keep Dl _ nad hDl10
            have x711 : Fw ad c11 B7 H7 B11 H11 := R7.trans x810 x11
            have nB11 : B11 Dl = none := x711.nB nB7 hDl7
            have y11 : Fw ad c11 B1 H1 B11 (delH H11 Dl) := R1.trans y7 (x711.del nB7 hDl7 nad)
            refine ⟨acc7, hDl11, ?_, rfl, hlt1, B11, c11, acc7 ++ [w], done7 ++ [d11], rest', upd_same, dpAll_snoc (dpAll_mono x711.bb _ _ dacc7) dw, by rw [delH_upd']; exact y11, nB11, s67.trans x711.bb, (R7.fw x711).poke no4 hDl11 nB11 nad, f9, by rw [ed7]; simp⟩
            have : acc7.length = done7.length := dpAll_len dacc7
            rw [ed7] at hz'
            simp at hz'
            rw [sizeLine_eq]; omega
        · have ej : j = ys.length := by omega
          subst ej
          rw [List.drop_length] at e7'
          cases e7'
          refine .inl ⟨v1, rfl, hlt, B7, c7, acc7, done7, r2, hDl7, dacc7, y7, e13, by rw [ed7]; rfl⟩
    · have ei : i = xs.length := by omega
      subst ei
      rw [List.drop_length] at e'
      cases e'
      refine .inl ⟨w1, ?_⟩
      rw [List.append_nil] at ed
      subst ed
      exact q Dl acc B' H' (delH H' Dl) (R.trans x y) delH_self (upd_delH hDl).symm dacc
  · rw [if_neg hz] at e4; cases e4
end
end DL
/-! DLu: pop; how many keys a dict has, and the least one of one; remainders by any sign. -/
namespace DL
open PySem PySem.Spec L2 PyProof.Rows
section
variable {K : PySem.W.Frag} {X : Cx}
/-! ### y = x.pop() -/
def sPopTo (j i : Nat) : SS := fun ρ c => if i = j then none else match ρ[i]? with
  | some (.ol xs) => match xs[xs.length - 1]? with
    | some d => some (.nx, (ρ.set i (.ol (xs.take (xs.length - 1)))).set j (.im d), c)
    | none => none
  | _ => none
theorem imp_popTo {j i : Nat} : ImpS K (tAsg (tBM0 K "list" rPop (tVar i)) (gName j)) (sPopTo j i) := fun ad B σ H ρ c r D R e q => by
  unfold sPopTo at e
  split at e
  · cases e
  · split at e
    · rename_i xs e0
      split at e
      · rename_i d e1
        cases e
        obtain ⟨p, vs, g1, g2, g3, g4, g5⟩ := R.slot i _ e0
        obtain ⟨v, e2, dv⟩ := dpAll_get g5 e1
        have hl := dpAll_len g5
        refine ⟨.ref p, g1, .inl ⟨rfl, _, SqL.of g2⟩, p, vs, v, rfl, rfl, g2, by rw [hl]; exact e2, ?_⟩
        obtain ⟨R2, y⟩ := R.chOl (i := i) e0 rfl g1 (dpAll_take (xs.length - 1) g5)
        rw [List.dropLast_eq_take, hl]
        exact q B _ _ (R2.setIm (i := j) dv) (FwS.trans R R2 y (FwS.setNo R2 rfl))
      · cases e
    · cases e
/-! ### len(d), min(d) -/
def sDLenO (i : Nat) : SE := fun ρ c => match ρ[i]? with
  | some (.od kvs) => some (.int kvs.length, c)
  | _ => none
theorem imp_dlen {i : Nat} : ImpE K (tCB (fun xs H Q => ∃ a kvs, xs = [V.ref a] ∧ H a = some (.dK kvs) ∧ Q (.int kvs.length) H) (tCons (tVar i) tNil)) (sDLenO i) := fun ad B σ H ρ c d c' Q R e q => by
  unfold sDLenO at e
  split at e
  · rename_i kvs e0
    cases e
    obtain ⟨a, ks, g1, g2, g3, g4, g5⟩ := R.slot i _ e0
    refine ⟨.ref a, g1, a, ks, rfl, g2, ?_⟩
    rw [kv_len g5]
    exact q _ B H R.fwRefl (.int _)
  · cases e
def rMinD : List V → Hp → VK → Prop := fun xs H Q => ∃ (a : Addr) (k : Int) (v : V), xs = [V.ref a] ∧ H a = some (.dK [(Sum.inl k, v)]) ∧ Q (.int k) H
theorem call_minD (hc : X.calm = true) : CallR X (.builtin "min") rMinD := by
  intro pins s σ H xs us Q I r h
  obtain ⟨a, k, v, rfl, hk, q⟩ := h
  rw [Vals.ref1 r]
  obtain ⟨z, lo, vs, rk, hd⟩ := (show ObjOk X.prog X.w H s.heap a (.dK [(Sum.inl k, v)]) from I.hok a _ hk)
  obtain ⟨ep, hat⟩ := hd.dictAt
  have hl : 1 = vs.length := Paired.length rk
  have kk := KV.keys rk
  obtain ⟨oI, St, hit, W, st⟩ := (PySem.W.kdl_dict (knd := mixKind X.prog X.w) (kvs := vs) (ep := ep) lo).iter X.A.in1 s (I.ok.hd hc) hat
  have hval : ∀ (i : Nat) (u : Value), (∃ k x, vs[i]? = some (k, x) ∧ (mixKind X.prog X.w).is k u = true) → ∃ t, u = .int ((fun _ => k) i) t := fun i u hu => by
    obtain ⟨k', y, h1, h2⟩ := hu
    have hi : i < vs.length := (List.getElem?_eq_some_iff.mp h1).1
    have e1 : (vs.map (·.1))[i]? = some k' := by rw [List.getElem?_map, h1]; rfl
    have kk' : [(Sum.inl k : Key)] = vs.map (·.1) := kk
    rw [← kk'] at e1
    have ei : i = 0 := by omega
    subst ei
    cases e1
    exact keyIs_rel (show keyIs (Sum.inl k) u = true from h2)
  refine call_min_walk (hit _ _ ⟨_, _, _, _, _, _, _, rfl, W, st, fun b hb => ?_, by omega, CmpOf.ints_lt (fun _ => k) hval, fun u h' tk hP hkeep => ?_⟩)
  · show b < (s.heap.push oI).objs.size
    rw [Heap.size_push]
    have ha := hat.lt_size
    rcases List.mem_cons.mp hb with e | hb
    · rw [e]; exact Nat.lt_succ_self _
    · rw [List.mem_singleton.mp hb]; exact Nat.lt_succ_of_lt ha
  · obtain ⟨t, rfl⟩ := hval _ u hP
    refine ⟨.int k, H, I.kept fun b o e => ?_, ⟨t, rfl⟩, q⟩
    refine hkeep b o (fun hm => ?_) (Heap.get?_push_of_some _ e)
    have := Heap.lt_size e
    rw [List.mem_singleton.mp hm] at this
    exact Nat.lt_irrefl _ this
def sDMin (i : Nat) : SE := fun ρ c => match ρ[i]? with
  | some (.od [(k, _)]) => some (.int k, c)
  | _ => none
theorem imp_dmin {i : Nat} : ImpE K (tCB rMinD (tCons (tVar i) tNil)) (sDMin i) := fun ad B σ H ρ c d c' Q R e q => by
  unfold sDMin at e
  split at e
  · rename_i k d0 e0
    cases e
    obtain ⟨a, ks, g1, g2, g3, g4, g5⟩ := R.slot i _ e0
    cases g5 with
    | @cons p _ ps _ r1 r2 =>
      cases r2
      obtain ⟨r1, _⟩ := r1
      have : p = (Sum.inl k, p.2) := by rw [← r1]
      rw [this] at g2
      exact ⟨.ref a, g1, a, k, p.2, rfl, g2, q _ B H R.fwRefl (.int _)⟩
  · cases e
/-! ### a % b, b of any sign -/
def modN : D → D → Option D
  | .int a, .int b => if b = 0 then none else some (.int (a.fmod b))
  | _, _ => none
theorem d_modN : OpD K (rI (fun _ j => j ≠ 0) fun i j => .int (i.fmod j)) modN := fun B H x y d e z Q s hx hy h q => by
  cases hx with
  | int a =>
    cases hy with
    | int b =>
      have h' : (if b = 0 then none else some (PyData.int (a.fmod b))) = some z := h
      split at h'
      · cases h'
      · rename_i hz
        cases h'
        exact ⟨a, b, rfl, rfl, hz, q _ B H (Grow.refl s) (.int _)⟩
    | _ => cases h
  | _ => cases h
end
end DL
/-! DLx: a list of lists of one's own, filled by loops, then plain data. -/
namespace DL
open PySem PySem.Spec L2
section
variable {K : PySem.W.Frag}
/-- at slot i a list a of lists bs; nss what they hold -/
structure NeOk (K : PySem.W.Frag) (ad : Option Addr) (B H : Hp) (σ : L2.St) (ρ : Rho) (i : Nat) (a : Addr) (bs : List Addr) (nss : List (List D)) : Prop where
  at_ : σ[i]? = some (some (.ref a))
  un : ρ[i]? = some .un
  ha : H a = some (.lst (bs.map V.ref))
  na : B a = none
  aa : ad ≠ some a
  ao : ¬ Owned ρ σ a
  ab : a ∉ bs
  len : bs.length = nss.length
  nd : bs.Nodup
  inn : ∀ (j : Nat) (b : Addr), bs[j]? = some b → ∃ vs xs, nss[j]? = some xs ∧ H b = some (.lst vs) ∧ DpAll K B vs xs ∧ B b = none ∧ ad ≠ some b ∧ ¬ Owned ρ σ b
/-- a way on which the lists bs may grow -/
structure FwN (ad : Option Addr) (bs : List Addr) (B : Hp) (σ : L2.St) (H : Hp) (ρ : Rho) (B' : Hp) (σ' : L2.St) (H' : Hp) (ρ' : Rho) : Prop where
  bb : Same B B'
  keep : ∀ x o, ad ≠ some x → H x = some o → ¬ Owned ρ σ x → x ∉ bs → H' x = some o
  fresh : ∀ x o, B' x = some o → B x = none → H x = none ∨ Owned ρ σ x
  own : ∀ x, Owned ρ' σ' x → Owned ρ σ x ∨ H x = none
  al : ∀ b, b ∈ bs → ∃ o, H' b = some o
variable {ad : Option Addr} {B B1 B2 B' H H1 H2 H' : Hp} {σ σ1 σ2 σ' : L2.St} {ρ ρ1 ρ2 ρ' : Rho} {c c1 c2 c' : Dr} {i : Nat} {a : Addr} {bs : List Addr} {nss : List (List D)}
theorem NeOk.alive (n : NeOk K ad B H σ ρ i a bs nss) : ∀ b, b ∈ bs → ∃ o, H b = some o := fun b hb => by
  obtain ⟨j, hj, e⟩ := List.getElem_of_mem hb
  obtain ⟨vs, xs, _, h, _⟩ := n.inn j b (by rw [List.getElem?_eq_getElem hj, e])
  exact ⟨_, h⟩
theorem FwN.refl (n : NeOk K ad B H σ ρ i a bs nss) : FwN ad bs B σ H ρ B σ H ρ :=
  ⟨Same.refl B, fun _ _ _ h _ _ => h, fun x o h m => (by rw [h] at m; cases m), fun x z => .inl z, n.alive⟩
theorem FwN.trans (r : Rl K ad B σ H ρ c) (r1 : Rl K ad B1 σ1 H1 ρ1 c1) (x : FwN ad bs B σ H ρ B1 σ1 H1 ρ1) (y : FwN ad bs B1 σ1 H1 ρ1 B2 σ2 H2 ρ2) : FwN ad bs B σ H ρ B2 σ2 H2 ρ2 := by
  have back : ∀ z, H1 z = none → Owned ρ σ z ∨ H z = none := fun z q => by
    by_cases w : Owned ρ σ z
    · exact .inl w
    · cases e : H z with
      | none => exact .inr rfl
      | some u =>
        have n1 : ad ≠ some z := fun z' => by
          have := r1.cell z z'
          rw [q] at this; cases this
        have n2 : z ∉ bs := fun z' => by
          obtain ⟨o, h⟩ := x.al z z'
          rw [q] at h; cases h
        rw [x.keep z u n1 e w n2] at q; cases q
  refine ⟨x.bb.trans y.bb, fun z o n h no nb => ?_, fun z o h n => ?_, fun z w => ?_, y.al⟩
  · refine y.keep z o n (x.keep z o n h no nb) (fun w => ?_) nb
    rcases x.own z w with q | q
    · exact no q
    · rw [h] at q; cases q
  · cases q : B1 z with
    | some u => exact x.fresh z u q n
    | none =>
      rcases y.fresh z o h q with w | w
      · exact (back z w).symm
      · exact (x.own z w).symm
  · rcases y.own z w with q | q
    · exact x.own z q
    · exact back z q
/-- an expression on the way -/
theorem NeOk.fw (n : NeOk K ad B H σ ρ i a bs nss) (x : Fw ad c' B H B' H') : NeOk K ad B' H' σ ρ i a bs nss where
  at_ := n.at_
  un := n.un
  ha := x.keep a _ n.aa n.ha
  na := x.nB n.na n.ha
  aa := n.aa
  ao := n.ao
  ab := n.ab
  len := n.len
  nd := n.nd
  inn := fun j b e => by
    obtain ⟨vs, xs, h1, h2, h3, h4, h5, h6⟩ := n.inn j b e
    exact ⟨vs, xs, h1, x.keep b _ h5 h2, dpAll_mono x.bb _ _ h3, x.nB h4 h2, h5, h6⟩
theorem FwN.ofFw (n : NeOk K ad B H σ ρ i a bs nss) (x : Fw ad c' B H B' H') : FwN ad bs B σ H ρ B' σ H' ρ :=
  ⟨x.bb, fun z o m h _ _ => x.keep z o m h, fun z o h m => .inl (x.fresh z o h m), fun z w => .inl w, (n.fw x).alive⟩
/-- slots change, the heap does not -/
theorem NeOk.slots (n : NeOk K ad B H σ ρ i a bs nss) (h1 : σ'[i]? = σ[i]?) (h2 : ρ'[i]? = some .un) (h3 : ∀ x, Owned ρ' σ' x → Owned ρ σ x ∨ H x = none) : NeOk K ad B H σ' ρ' i a bs nss where
  at_ := by rw [h1]; exact n.at_
  un := h2
  ha := n.ha
  na := n.na
  aa := n.aa
  ao := fun z => by
    rcases h3 a z with w | w
    · exact n.ao w
    · rw [n.ha] at w; cases w
  ab := n.ab
  len := n.len
  nd := n.nd
  inn := fun j b e => by
    obtain ⟨vs, xs, g1, g2, g3, g4, g5, g6⟩ := n.inn j b e
    refine ⟨vs, xs, g1, g2, g3, g4, g5, fun z => ?_⟩
    rcases h3 b z with w | w
    · exact g6 w
    · rw [g2] at w; cases w
theorem FwN.slots (n : NeOk K ad B H σ ρ i a bs nss) (h3 : ∀ x, Owned ρ' σ' x → Owned ρ σ x ∨ H x = none) : FwN ad bs B σ H ρ B σ' H ρ' :=
  ⟨Same.refl B, fun _ _ _ h _ _ => h, fun x o h m => (by rw [h] at m; cases m), h3, n.alive⟩

abbrev SN := Rho → List (List D) → Dr → Option (Rho × List (List D) × Dr)
def ImpN (K : PySem.W.Frag) (i : Nat) (t : TS) (f : SN) : Prop := ∀ (ad : Option Addr) (B : Hp) (σ : L2.St) (H : Hp) (ρ : Rho) (c : Dr) (a : Addr) (bs : List Addr) (nss : List (List D)) (r : Rho × List (List D) × Dr) (D : Ends), Rl K ad B σ H ρ c → NeOk K ad B H σ ρ i a bs nss → f ρ nss c = some r →
  (∀ B' σ' H', Rl K ad B' σ' H' r.1 r.2.2 → NeOk K ad B' H' σ' r.1 i a bs r.2.1 → FwN ad bs B σ H ρ B' σ' H' r.1 → D.nx σ' H') → t D σ H
def nSeq (f g : SN) : SN := fun ρ nss c => (f ρ nss c).bind fun r => g r.1 r.2.1 r.2.2
theorem imp_nSeq {t u : TS} {f g : SN} (h1 : ImpN K i t f) (h2 : ImpN K i u g) : ImpN K i (tSeq t u) (nSeq f g) := fun ad B σ H ρ c a bs nss r D R n e q => by
  obtain ⟨r1, e1, e2⟩ := Option.bind_eq_some_iff.mp e
  exact h1 ad B σ H ρ c a bs nss r1 _ R n e1 fun B' σ' H' R' n' x => h2 ad B' σ' H' _ _ a bs _ r D R' n' e2 fun B2 σ2 H2 R2 n2 y => q B2 σ2 H2 R2 n2 (FwN.trans R R' x y)
/-- x = e -/
def nAsg (i : Nat) (a : SE) (j : Nat) : SN := fun ρ nss c => if j = i then none else (a ρ c).bind fun p => some (ρ.set j (.im p.1), nss, p.2)
theorem imp_nAsg {t : TE} {f : SE} {j : Nat} (h : ImpE K t f) : ImpN K i (tAsg t (gName j)) (nAsg i f j) := fun ad B σ H ρ c a bs nss r D R n e q => by
  unfold nAsg at e
  split at e
  · cases e
  · rename_i hj
    obtain ⟨⟨d, c1⟩, e1, e2⟩ := Option.bind_eq_some_iff.mp e
    cases e2
    refine h ad B σ H ρ c d c1 _ R e1 fun v B' H' x dv => ?_
    have R' := R.fw x
    have n' := n.fw x
    have own : ∀ z, Owned (ρ.set j (.im d)) (σ.set j (some v)) z → Owned ρ σ z ∨ H' z = none := fun z w => .inl (owned_set_of R.len rfl w)
    have own0 : ∀ z, Owned (ρ.set j (.im d)) (σ.set j (some v)) z → Owned ρ σ z ∨ H z = none := fun z w => .inl (owned_set_of R.len rfl w)
    refine q B' _ H' (R'.setIm dv) (n'.slots (List.getElem?_set_ne hj) (by rw [List.getElem?_set_ne hj]; exact n.un) own) ?_
    exact FwN.trans R R' (FwN.ofFw n x) (FwN.slots n' own)
/-- x[k].append(e) -/
def nApp (k e : SE) : SN := fun ρ nss c => (k ρ c).bind fun p => match p.1 with
  | .int j => if 0 ≤ j then match nss[j.toNat]? with
    | some xs => (e ρ p.2).bind fun q => if few xs.length = true then some (ρ, nss.set j.toNat (xs ++ [q.1]), q.2) else none
    | none => none
    else none
  | _ => none
theorem imp_nApp {tk te : TE} {k e : SE} (hk : ImpE K tk k) (he : ImpE K te e) : ImpN K i (tDrop (tBM K "list" rAppend (tOp (rIx K) (tVar i) tk) (tCons te tNil))) (nApp k e) := fun ad B σ H ρ c a bs nss r D R n h q => by
  obtain ⟨⟨kd, c1⟩, e1, e2⟩ := Option.bind_eq_some_iff.mp h
  cases kd with
  | int j =>
    have e2 : (if 0 ≤ j then match nss[j.toNat]? with
      | some xs => (e ρ c1).bind fun q => if few xs.length = true then some (ρ, nss.set j.toNat (xs ++ [q.1]), q.2) else none
      | none => none
      else none) = some r := e2
    split at e2
    · rename_i hj
      split at e2
      · rename_i xs hx
        obtain ⟨⟨d, c2⟩, e3, e4⟩ := Option.bind_eq_some_iff.mp e2
        split at e4
        · rename_i hz
          cases e4
          refine ⟨.ref a, n.at_, hk ad B σ H ρ c (.int j) c1 _ R e1 fun u B1 H1 x du => ?_⟩
          have R1 := R.fw x
          have n1 := n.fw x
          have hl : j.toNat < bs.length := by
            rw [n.len]
            exact (List.getElem?_eq_some_iff.mp hx).1
          obtain ⟨b, hb⟩ : ∃ b, bs[j.toNat]? = some b := ⟨_, List.getElem?_eq_getElem hl⟩
          have hat : atI (bs.map V.ref) j = some (.ref b) := by
            have := atI_nat (xs := bs.map V.ref) (j := j.toNat) (v := V.ref b) (by rw [List.getElem?_map, hb]; rfl)
            rwa [show ((j.toNat : Nat) : Int) = j by omega] at this
          obtain ⟨vs, xs', g1, g2, g3, g4, g5, g6⟩ := n1.inn _ b hb
          rw [hx] at g1
          cases g1
          rw [dp_int du]
          refine .inl ⟨a, _, j, .ref b, rfl, rfl, SqL.of n1.ha, hat, .inl ⟨rfl, _, SqL.of g2⟩, he ad B1 σ H1 ρ c1 d c2 _ R1 e3 fun v B2 H2 y dv => ?_⟩
          have R2 := R1.fw y
          have n2 := n1.fw y
          obtain ⟨vs2, xs2, k1, k2, k3, k4, k5, k6⟩ := n2.inn _ b hb
          rw [hx] at k1
          cases k1
          have mem : b ∈ bs := List.mem_of_getElem? hb
          refine ⟨b, vs2, v, rfl, rfl, k2, by rw [dpAll_len k3]; exact few_lt hz, ?_⟩
          have x02 : Fw ad c2 B H B2 H2 := R.trans x y
          have n3 : NeOk K ad B2 (upd H2 b (.lst (vs2 ++ [v]))) σ ρ i a bs (nss.set j.toNat (xs ++ [d])) := by
            refine ⟨n2.at_, n2.un, ?_, n2.na, n2.aa, n2.ao, n2.ab, by rw [List.length_set]; exact n2.len, n2.nd, fun m b' hb' => ?_⟩
            · rw [upd_ne (fun z => by rw [z] at n2; exact n2.ab mem)]; exact n2.ha
            · obtain ⟨us, ys, l1, l2, l3, l4, l5, l6⟩ := n2.inn m b' hb'
              by_cases hm : m = j.toNat
              · subst hm
                rw [hb] at hb'
                cases hb'
                refine ⟨vs2 ++ [v], xs ++ [d], List.getElem?_set_self (by rw [← n2.len]; exact hl), upd_same, dpAll_snoc k3 dv, k4, k5, k6⟩
              · have hne : b' ≠ b := fun z => by
                  subst z
                  have h1 := List.getElem?_eq_some_iff.mp hb'
                  have h2 := List.getElem?_eq_some_iff.mp hb
                  have pw := List.pairwise_iff_getElem.mp n2.nd
                  rcases Nat.lt_or_gt_of_ne hm with w | w
                  · exact pw m j.toNat h1.1 h2.1 w (h1.2.trans h2.2.symm)
                  · exact pw j.toNat m h2.1 h1.1 w (h2.2.trans h1.2.symm)
                refine ⟨us, ys, by rw [List.getElem?_set_ne (Ne.symm hm)]; exact l1, by rw [upd_ne hne]; exact l2, l3, l4, l5, l6⟩
          refine q B2 σ _ (R2.poke k6 k2 k4 k5) n3 (FwN.trans R R2 (FwN.ofFw n x02) ⟨Same.refl B2, fun z o m hz' _ nb => ?_, fun z o h1 m => (by rw [h1] at m; cases m), fun z w => .inl w, n3.alive⟩)
          rw [upd_ne (fun w => nb (by rw [w]; exact mem))]
          exact hz'
        · cases e4
      · cases e2
    · cases e2
  | _ => cases e2
/-- behind a turn some slots are not known any more -/
def nThen (is : List Nat) (f : SN) : SN := fun ρ nss c => (f ρ nss c).bind fun r => some (unset is r.1, r.2.1, r.2.2)
theorem unset_un : ∀ (is : List Nat) {ρ : Rho}, ρ[i]? = some .un → (unset is ρ)[i]? = some .un
  | [], _, h => h
  | j :: is, ρ, h => by
    show (unset is (ρ.set j .un))[i]? = some .un
    refine unset_un is ?_
    by_cases e : j = i
    · subst e
      rw [List.getElem?_set_self (List.getElem?_eq_some_iff.mp h).1]
    · rw [List.getElem?_set_ne e]; exact h
theorem imp_nThen {t : TS} {f : SN} (is : List Nat) (h : ImpN K i t f) : ImpN K i t (nThen is f) := fun ad B σ H ρ c a bs nss r D R n e q => by
  obtain ⟨r1, e1, e2⟩ := Option.bind_eq_some_iff.mp e
  cases e2
  refine h ad B σ H ρ c a bs nss r1 D R n e1 fun B' σ' H' R' n' x => ?_
  obtain ⟨R2, y⟩ := R'.forgets is
  exact q B' σ' H' R2 (n'.slots rfl (unset_un is n'.un) y.own) (FwN.trans R R' x (FwN.slots n' y.own))
/-- a loop -/
def forN (g : D → Rho → Option Rho) (body : SN) : List D → SN
  | [] => fun ρ nss c => some (ρ, nss, c)
  | x :: xs => fun ρ nss c => (g x ρ).bind fun ρ1 => (body ρ1 nss c).bind fun r => forN g body xs r.1 r.2.1 r.2.2
def nFor (f : SI) (g : D → Rho → Option Rho) (body : SN) : SN := fun ρ nss c => (f ρ c).bind fun p => forN g body p.1 ρ nss p.2
theorem wipe_get {i : Nat} : ∀ {vs : List Nat} {σ : L2.St}, i ∉ vs → (wipe σ vs)[i]? = σ[i]?
  | [], _, _ => rfl
  | v :: vs, σ, h => by
    show ((wipe σ vs).set v none)[i]? = σ[i]?
    rw [List.getElem?_set_ne (fun z => h (by rw [z]; exact List.mem_cons_self)), wipe_get fun z => h (List.mem_cons_of_mem _ z)]
theorem imp_nFor {wi : TI} {tg : TG} {tb : TS} {f : SI} {g : D → Rho → Option Rho} {body : SN} {vs : List Nat} (hf : ImpI K wi f) (hg : ImpG K tg g) (ho : OnlyG tg vs) (mn : MonoG tg) (hi : i ∉ vs) (hu : ∀ d ρ ρ', g d ρ = some ρ' → ρ'[i]? = ρ[i]?) (hb : ImpN K i tb body) :
    ImpN K i (tFor wi tg tb) (nFor f g body) := fun ad B σ H ρ c a bs nss r D R n e q => by
  obtain ⟨⟨xs, c1⟩, e1, e2⟩ := Option.bind_eq_some_iff.mp e
  refine hf ad B σ H ρ c xs c1 _ R e1 fun J B1 H1 x wk => ?_
  have R1 := R.fw x
  have n1 := n.fw x
  have y01 := FwN.ofFw n x
  refine ⟨fun k m σ' H' => m = xs.length - k ∧ k ≤ xs.length ∧ ∃ B' ρ' nss' c', Rl K ad B' σ' H' ρ' c' ∧ NeOk K ad B' H' σ' ρ' i a bs nss' ∧ FwN ad bs B1 σ H1 ρ B' σ' H' ρ' ∧ forN g body (xs.drop k) ρ' nss' c' = some r,
    ⟨xs.length, by rw [Nat.sub_zero], Nat.zero_le _, B1, ρ, nss, c1, R1, n1, FwN.refl n1, by rw [List.drop_zero]; exact e2⟩, fun k m σ' H' hW => ?_⟩
  obtain ⟨rfl, hk, B', ρ', nss', c', R', n', y, e'⟩ := hW
  obtain ⟨w1, w2⟩ := wk B' H' y.bb R'.sub
  by_cases hlt : k < xs.length
  · obtain ⟨go, yl⟩ := w2 k _ (List.getElem?_eq_getElem hlt)
    rw [List.drop_eq_getElem_cons hlt] at e'
    obtain ⟨ρ2, e3, e4⟩ := Option.bind_eq_some_iff.mp e'
    obtain ⟨r3, e5, e6⟩ := Option.bind_eq_some_iff.mp e4
    refine .inr ⟨go, fun σ2 H2 => xs.length - (k + 1) = xs.length - (k + 1) ∧ k + 1 ≤ xs.length ∧ ∃ B2 ρ2 nss2 c2, Rl K ad B2 σ2 H2 ρ2 c2 ∧ NeOk K ad B2 H2 σ2 ρ2 i a bs nss2 ∧ FwN ad bs B1 σ H1 ρ B2 σ2 H2 ρ2 ∧ forN g body (xs.drop (k + 1)) ρ2 nss2 c2 = some r, fun σ2 H2 h2 => ⟨xs.length - (k + 1), by omega, h2⟩, fun v H3 hv => ?_⟩
    obtain ⟨B3, gr, dv⟩ := yl v H3 hv
    have x3 : Fw ad c' B' H' B3 H3 := gr.fw R'.cell
    have R3 := R'.fw x3
    have n3 := n'.fw x3
    have y3 := FwN.trans R1 R' y (FwN.ofFw n' x3)
    have on := ho v σ' H3 _ (hg ad B3 σ' H3 ρ' c' v _ ρ2 (fun σ4 H4 => H4 = H3 ∧ Rl K ad B3 σ4 H3 ρ2 c' ∧ FwS ad B3 σ' H3 ρ' B3 σ4 H3 ρ2) R3 dv e3 fun σ4 R4 y4 => ⟨rfl, R4, y4⟩)
    refine mn _ _ _ _ _ (fun σ4 H4 h4 => ?_) on
    obtain ⟨⟨rfl, R4, y4⟩, ew⟩ := h4
    have es : σ4[i]? = σ'[i]? := by rw [← wipe_get (vs := vs) (σ := σ4) hi, ew, wipe_get hi]
    have n4 := n3.slots es (by rw [hu _ _ _ e3]; exact n'.un) y4.own
    have y5 := FwN.trans R1 R3 y3 (FwN.slots n3 y4.own)
    refine hb ad B3 σ4 H4 ρ2 c' a bs nss' r3 _ R4 n4 e5 fun B5 σ5 H5 R5 n5 y6 => ?_
    exact ⟨rfl, hlt, B5, _, _, _, R5, n5, FwN.trans R1 R4 y5 y6, e6⟩
  · have ei : k = xs.length := by omega
    subst ei
    rw [List.drop_length] at e'
    cases e'
    exact .inl ⟨w1, q B' σ' H' R' n' (FwN.trans R R1 y01 y)⟩
/-! ### made, filled, and plain data from then on -/
def sNear (i p : Nat) (cnt : SA) (fN : SN) (g : SS) : SS := fun ρ c => (cnt ρ c).bind fun q => match q.1 with
  | [.int n] => if i < ρ.length ∧ okR n = true then (fN (ρ.set i .un) (List.replicate n.toNat []) q.2).bind fun r => g (r.1.set i (.im (.list (r.2.1.map .list)))) r.2.2 else none
  | _ => none
theorem dpAll_refs {bs : List Addr} (hin : ∀ (j : Nat) (b : Addr), bs[j]? = some b → ∃ vs xs, nss[j]? = some xs ∧ B b = some (.lst vs) ∧ DpAll K B vs xs) (hl : bs.length = nss.length) : DpAll K B (bs.map V.ref) (nss.map PyData.list) := by
  induction bs generalizing nss with
  | nil =>
    cases nss with
    | nil => exact .nil
    | cons => cases hl
  | cons b bs ih =>
    cases nss with
    | nil => cases hl
    | cons xs nss =>
      obtain ⟨vs, xs', e1, e2, e3⟩ := hin 0 b rfl
      cases e1
      exact .cons (.lst e2 e3) (ih (fun j b' e => hin (j + 1) b' e) (by simpa using hl))
theorem imp_near {p : Nat} {tn : TA} {cnt : SA} {tF tr : TS} {fN : SN} {g : SS} (hc : ImpA K tn cnt) (hF : ImpN K i tF fN) (hr : ImpS K tr g) :
    ImpS K (tSeq (tAsg (tLc (iRng1 tn) (gName p) tYes (tLst tNil) [p]) (gName i)) (tSeq tF tr)) (sNear i p cnt fN g) := fun ad B σ H ρ c r D R e q => by
  obtain ⟨⟨ds, c1⟩, e1, e2⟩ := Option.bind_eq_some_iff.mp e
  split at e2
  · rename_i q0 n e3
    have e3' : ds = [.int n] := e3
    subst e3'
    split at e2
    · rename_i hz
      obtain ⟨hil, hn⟩ := hz
      obtain ⟨r1, e4, e5⟩ := Option.bind_eq_some_iff.mp e2
      have hn0 : n.natAbs ≤ 1000000 := of_decide_eq_true hn
      refine hc ad B σ H ρ c [.int n] c1 _ R e1 fun vs B1 H1 x dv => ?_
      cases dv with
      | cons d1 dr =>
      cases dr
      obtain ⟨z1, z2⟩ := okR_to hn
      refine ⟨n, by rw [dp_int d1], z1, z2, fun Dl hD => ?_⟩
      have R1 := R.fw x
      refine ⟨fun k m H' => m = n.toNat - k ∧ k ≤ n.toNat ∧ ∃ bs : List Addr, bs.length = k ∧ H' Dl = some (.lst (bs.map V.ref)) ∧ bs.Nodup ∧ (∀ b ∈ bs, H1 b = none ∧ b ≠ Dl ∧ H' b = some (.lst [])) ∧ ∀ y o, H1 y = some o → H' y = some o,
        ⟨n.toNat, by rw [Nat.sub_zero], Nat.zero_le _, [], rfl, upd_same, List.nodup_nil, fun b hb => (by cases hb), fun y o h => by rw [upd_ne (ne_of_none h hD)]; exact h⟩, fun k m H' hW => ?_⟩
      obtain ⟨rfl, hk, bs, hb1, hb2, hb3, hb4, hb5⟩ := hW
      by_cases hlt : k < n.toNat
      · refine .inr ⟨hlt, fun H2 => n.toNat - (k + 1) = n.toNat - (k + 1) ∧ k + 1 ≤ n.toNat ∧ ∃ bs : List Addr, bs.length = k + 1 ∧ H2 Dl = some (.lst (bs.map V.ref)) ∧ bs.Nodup ∧ (∀ b ∈ bs, H1 b = none ∧ b ≠ Dl ∧ H2 b = some (.lst [])) ∧ ∀ y o, H1 y = some o → H2 y = some o, fun H2 h2 => ⟨n.toNat - (k + 1), by omega, h2⟩, fun v H3 hv => ?_⟩
        obtain ⟨rfl, rfl⟩ := hv
        refine ⟨?_, ?_⟩
        · show (((σ.set p none).set p (some _)).set p none) = σ.set p none
          rw [List.set_set, List.set_set]
        · unfold tYes
          dsimp only
          rw [if_pos rfl]
          refine ⟨Nat.zero_le _, fun b nb => ?_⟩
          have hne : b ≠ Dl := fun z => by rw [z, hb2] at nb; cases nb
          have hnb : b ∉ bs := fun z => by
            have := (hb4 b z).2.2
            rw [nb] at this; cases this
          have h1b : H1 b = none := by
            cases w : H1 b with
            | none => rfl
            | some o =>
              rw [hb5 b o w] at nb; cases nb
          refine ⟨bs.map V.ref, by rw [upd_ne hne.symm]; exact hb2, by rw [List.length_map, hb1, sizeLine_eq]; omega, rfl, hlt, bs ++ [b], by simp [hb1], ?_, ?_, fun b' hb' => ?_, fun y o h => ?_⟩
          · rw [upd_same]; simp
          · rw [List.nodup_append]
            refine ⟨hb3, by simp, fun u hu w hw => ?_⟩
            rw [List.mem_singleton.mp hw]
            exact fun z => hnb (z ▸ hu)
          · rcases List.mem_append.mp hb' with w | w
            · obtain ⟨g1, g2, g3⟩ := hb4 b' w
              refine ⟨g1, g2, ?_⟩
              rw [upd_ne g2, upd_ne (fun z => by subst z; exact hnb w)]
              exact g3
            · rw [List.mem_singleton.mp w]
              exact ⟨h1b, hne, by rw [upd_ne hne, upd_same]⟩
          · have hy : y ≠ Dl := fun z => by rw [z, hD] at h; cases h
            rw [upd_ne hy, upd_ne (fun z => by rw [z, h1b] at h; cases h)]
            exact hb5 y o h
      · have ek : k = n.toNat := by omega
        subst ek
        refine .inl ⟨Nat.le_refl _, ?_⟩
        -- behind its making
        have s1 : Same H1 H' := hb5
        have x1 : Fw ad c1 B1 H1 B1 H' := ⟨Same.refl B1, R1.sub.trans s1, fun y o _ h => s1 y o h, fun y h => s1 y _ (R1.cell y h), fun y o h m => by rw [h] at m; cases m⟩
        have R2 : Rl K ad B1 (σ.set i (some (.ref Dl))) H' (ρ.set i .un) c1 := (R1.fw x1).setUn i (some (.ref Dl))
        have own1 : ∀ y, Owned (ρ.set i .un) (σ.set i (some (.ref Dl))) y → Owned ρ σ y := fun y w => owned_set_of R.len rfl w
        have notown : ∀ y, H1 y = none → ¬ Owned (ρ.set i .un) (σ.set i (some (.ref Dl))) y := fun y hy w => by
          obtain ⟨_, _, o, h⟩ := R1.ownB (own1 y w)
          rw [hy] at h; cases h
        have notad : ∀ y, H1 y = none → ad ≠ some y := fun y hy w => by rw [R1.cell y w] at hy; cases hy
        have n2 : NeOk K ad B1 H' (σ.set i (some (.ref Dl))) (ρ.set i .un) i Dl bs (List.replicate n.toNat []) := by
          refine ⟨List.getElem?_set_self (by rw [R.len]; exact hil), List.getElem?_set_self hil, hb2, R1.sub.free hD, notad Dl hD, notown Dl hD, fun z => (hb4 Dl z).2.1 rfl, by rw [hb1, List.length_replicate], hb3, fun j b hj => ?_⟩
          have hm := List.mem_of_getElem? hj
          obtain ⟨g1, g2, g3⟩ := hb4 b hm
          refine ⟨[], [], ?_, g3, .nil, R1.sub.free g1, notad b g1, notown b g1⟩
          have hjl : j < n.toNat := by rw [← hb1]; exact (List.getElem?_eq_some_iff.mp hj).1
          rw [List.getElem?_replicate, if_pos hjl]
        have y2 : FwS ad B σ H ρ B1 (σ.set i (some (.ref Dl))) H' (ρ.set i .un) := ⟨x.bb, fun y o m h _ => s1 y _ (x.keep y o m h), fun y o h m => .inl (x.fresh y o h m), fun y w => .inl (own1 y w)⟩
        have freeH : ∀ y, H1 y = none → H y = none ∨ Owned ρ σ y := fun y hy => by
          cases w : H y with
          | none => exact .inl rfl
          | some o =>
            have na : ad ≠ some y := notad y hy
            rw [x.keep y o na w] at hy; cases hy
        refine hF ad B1 _ H' (ρ.set i .un) c1 Dl bs _ r1 _ R2 n2 e4 fun B3 σ3 H3 R3 n3 y3 => ?_
        -- plain data from here on
        have isN : ∀ y, (y = Dl ∨ y ∈ bs) → B3 y = none ∧ ¬ Owned r1.1 σ3 y ∧ ad ≠ some y ∧ ∃ us, H3 y = some (.lst us) := fun y hy => by
          rcases hy with z | z
          · subst z; exact ⟨n3.na, n3.ao, n3.aa, _, n3.ha⟩
          · obtain ⟨j, hj, ej⟩ := List.getElem_of_mem z
            obtain ⟨us, xs, g1, g2, g3, g4, g5, g6⟩ := n3.inn j y (by rw [List.getElem?_eq_getElem hj, ej])
            exact ⟨g4, g6, g5, us, g2⟩
        let B4 : Hp := fun y => if y = Dl ∨ y ∈ bs then H3 y else B3 y
        have b4t : ∀ {y}, (y = Dl ∨ y ∈ bs) → B4 y = H3 y := fun {y} h => if_pos h
        have b4f : ∀ {y}, ¬ (y = Dl ∨ y ∈ bs) → B4 y = B3 y := fun {y} h => if_neg h
        have b34 : Same B3 B4 := fun y o h => by
          by_cases w : y = Dl ∨ y ∈ bs
          · rw [(isN y w).1] at h; cases h
          · rw [b4f w]; exact h
        have dp : Dp K B4 (.ref Dl) (.list (r1.2.1.map PyData.list)) := by
          refine .lst (by rw [b4t (.inl rfl)]; exact n3.ha) (dpAll_refs (fun j b hj => ?_) n3.len)
          obtain ⟨us, xs, g1, g2, g3, g4, g5, g6⟩ := n3.inn j b hj
          exact ⟨us, xs, g1, by rw [b4t (.inr (List.mem_of_getElem? hj))]; exact g2, dpAll_mono b34 _ _ g3⟩
        have hil3 : i < r1.1.length := (List.getElem?_eq_some_iff.mp n3.un).1
        have R4 : Rl K ad B4 σ3 H3 (r1.1.set i (.im (.list (r1.2.1.map PyData.list)))) r1.2.2 := by
          refine ⟨fun y o h => ?_, R3.cell, fun y h => ?_, by rw [List.length_set]; exact R3.len, fun j s hj => ?_, fun j k s t b hjk h1 h2 o1 o2 g1 => ?_⟩
          · by_cases w : y = Dl ∨ y ∈ bs
            · rw [b4t w] at h; exact h
            · rw [b4f w] at h; exact R3.sub y o h
          · by_cases w : y = Dl ∨ y ∈ bs
            · exact absurd h (isN y w).2.2.1
            · rw [b4f w]; exact R3.cfree y h
          · by_cases hji : j = i
            · subst hji
              rw [List.getElem?_set_self hil3] at hj
              cases hj
              exact ⟨.ref Dl, n3.at_, dp⟩
            · rw [List.getElem?_set_ne (Ne.symm hji)] at hj
              have qq := R3.slot j s hj
              have other : ∀ y, Owned r1.1 σ3 y → B3 y = none → B4 y = none := fun y w m => by
                by_cases w' : y = Dl ∨ y ∈ bs
                · exact absurd w (isN y w').2.1
                · rw [b4f w']; exact m
              cases s with
              | un => trivial
              | im d => obtain ⟨v, k1, k2⟩ := qq; exact ⟨v, k1, dp_mono b34 _ _ k2⟩
              | ol xs =>
                obtain ⟨b, us, k1, k2, k3, k4, k5⟩ := qq
                exact ⟨b, us, k1, k2, other b ⟨j, _, hj, rfl, k1⟩ k3, k4, dpAll_mono b34 _ _ k5⟩
              | od xs =>
                obtain ⟨b, us, k1, k2, k3, k4, k5⟩ := qq
                exact ⟨b, us, k1, k2, other b ⟨j, _, hj, rfl, k1⟩ k3, k4, kv_mono b34 k5⟩
              | fd xs =>
                obtain ⟨b, w, us, k1, k2, k3, k4, k5⟩ := qq
                refine ⟨b, w, us, k1, k2, ?_, k4, kv_mono b34 k5⟩
                by_cases w' : b = Dl ∨ b ∈ bs
                · obtain ⟨_, _, _, us', hu⟩ := isN b w'
                  rw [k2] at hu; cases hu
                · rw [b4f w']; exact k3
              | op v => exact qq
              | dr => exact qq
          · have nn : ∀ {j : Nat} {s : Sl}, (r1.1.set i (.im (.list (r1.2.1.map PyData.list))))[j]? = some s → owns s = true → r1.1[j]? = some s := fun {j s} h o => by
              by_cases hji : j = i
              · subst hji
                rw [List.getElem?_set_self hil3] at h
                cases h; cases o
              · rw [List.getElem?_set_ne (Ne.symm hji)] at h; exact h
            exact R3.sep j k s t b hjk (nn h1 o1) (nn h2 o2) o1 o2 g1
        -- the whole way
        have y5 : FwS ad B σ H ρ B4 σ3 H3 (r1.1.set i (.im (.list (r1.2.1.map PyData.list)))) := by
          have back : ∀ y, H' y = none → H y = none ∨ Owned ρ σ y := fun y hy => by
            by_cases w : Owned ρ σ y
            · exact .inr w
            · cases e : H y with
              | none => exact .inl rfl
              | some o =>
                have na : ad ≠ some y := fun z => by
                  have := R2.cell y z
                  rw [hy] at this; cases this
                rw [y2.keep y o na e w] at hy; cases hy
          refine ⟨(y2.bb.trans y3.bb).trans b34, fun y o m h no => ?_, fun y o h m => ?_, fun y w => ?_⟩
          · have h' := y2.keep y o m h no
            refine y3.keep y o m h' (fun w => ?_) (fun w => ?_)
            · rcases y2.own y w with u | u
              · exact no u
              · rw [h] at u; cases u
            · rcases freeH y (hb4 y w).1 with u | u
              · rw [h] at u; cases u
              · exact no u
          · by_cases w : y = Dl ∨ y ∈ bs
            · rcases w with w | w
              · subst w; exact freeH _ hD
              · exact freeH y (hb4 y w).1
            · rw [b4f w] at h
              cases u : B1 y with
              | some o' => exact y2.fresh y o' u m
              | none =>
                rcases y3.fresh y o h u with v | v
                · exact back y v
                · exact (y2.own y v).symm
          · have w' : Owned r1.1 σ3 y := by
              obtain ⟨j, t, h1, h2, h3⟩ := w
              by_cases hji : j = i
              · subst hji
                rw [List.getElem?_set_self hil3] at h1
                cases h1; cases h2
              · rw [List.getElem?_set_ne (Ne.symm hji)] at h1
                exact ⟨j, t, h1, h2, h3⟩
            rcases y3.own y w' with u | u
            · exact y2.own y u
            · exact (back y u).symm
        exact hr ad B4 σ3 H3 _ _ r D R4 e5 (Post.trans R R4 y5 q)
    · cases e2
  · cases e2
end
end DL
namespace DL
open PySem PySem.Spec L2
theorem hu_N {i j : Nat} (h : j ≠ i) : ∀ d ρ ρ', qN j d ρ = some ρ' → ρ'[i]? = ρ[i]? := fun d ρ ρ' e => by
  cases e
  exact List.getElem?_set_ne h
theorem hu_nil {i : Nat} : ∀ ds ρ ρ', qNil ds ρ = some ρ' → ρ'[i]? = ρ[i]? := fun ds ρ ρ' e => by
  cases ds with
  | nil => cases e; rfl
  | cons => cases e
theorem hu_cons {i : Nat} {g : D → Rho → Option Rho} {h : List D → Rho → Option Rho} (h1 : ∀ d ρ ρ', g d ρ = some ρ' → ρ'[i]? = ρ[i]?) (h2 : ∀ ds ρ ρ', h ds ρ = some ρ' → ρ'[i]? = ρ[i]?) : ∀ ds ρ ρ', qCons g h ds ρ = some ρ' → ρ'[i]? = ρ[i]? := fun ds ρ ρ' e => by
  cases ds with
  | nil => cases e
  | cons d ds =>
    obtain ⟨ρ1, e1, e2⟩ := Option.bind_eq_some_iff.mp e
    rw [h2 _ _ _ e2, h1 _ _ _ e1]
theorem hu_tup {i : Nat} {g : List D → Rho → Option Rho} (h : ∀ ds ρ ρ', g ds ρ = some ρ' → ρ'[i]? = ρ[i]?) : ∀ d ρ ρ', qTup g d ρ = some ρ' → ρ'[i]? = ρ[i]? := fun d ρ ρ' e => by
  cases d with
  | tuple ds => exact h ds ρ ρ' e
  | _ => cases e
end DL
/-! DLy: sets out of lists of ints, sorted; list(range(..)); texts cut and in capitals; truths among ints. -/
namespace DL
open PySem PySem.Spec L2 PyProof.Rows
/-! ### set(xs) of a list of ints -/
abbrev nwSet (w : World) : Obj := { cls := .type "set", dict := none, data := .set #[] 0 (.fresh 0 0 (!w.params.followText "set-order")) }
section
variable {P : Program} {w : World} {A : Around} {E : Value → Shared → Prop} {s : Shared}
set_option maxHeartbeats 6400000 in
theorem call_set_lstI {l : Addr} {items : Array Value} (ns : List Int) {Q : Value → Shared → Prop} (hh : A.handled = none) (hl : s.heap.IsList l items)
    (hit : IntsAre items.toList ns) (hb : ns.length + 1 < scanBound)
    (h : ∀ (h' : Heap) (tk c : Nat), SetR w h' s.heap.objs.size (fun j => decide (j ∈ ns)) c → c ≤ ns.length →
      (∀ b o, s.heap.get? b = some o → h'.get? b = some o) → Q (.ref s.heap.objs.size) { s with heap := h', toks := tk }) :
    wpAny (model P w) A (call (.type "set") [.ref l]) Q E s := by
  have hisz : items.size = ns.length := by rw [← IntsAre.length hit, Array.length_toList]
  obtain ⟨c, tl, hmro⟩ := PySem.F.called_set.mro
  have hmade := PySem.F.called_set.made
  have hsub := PySem.F.called_set.sub
  refine wpAny_call (codeAny_of_tree ?_)
  show wpAny _ _ (callAny (.type "set") _) _ _ _
  refine wpAny_pure ⟨Code.quiet_builtin _ (by decide +kernel), codeAny_builtin PySem.F.entry_type_call ?_⟩
  rw [Around.under_plain (weight_type_call_type "set" [.ref l] []) rfl]
  have h1 := PySem.F.called_set.notType
  have h2 := PySem.F.called_set.canCreate
  have hct := PySem.F.typeCall_set_1 (.ref l)
  repeat (any_goals (first | assumption | wp_step))
  refine codeAny_mono (code_set_led1 (.ref l) (E := E) (Q₁ := fun ob s₁ => ob = .ref s.heap.objs.size ∧ s₁ = { s with heap := s.heap.push (nwSet w) }) ⟨rfl, rfl⟩) fun r s₁ hr => ?_
  cases r with
  | error e => exact hr
  | ok fl =>
    cases fl with
    | ret ob =>
      obtain ⟨rfl, rfl⟩ := hr
      have hS : (s.heap.push (nwSet w)).get? s.heap.objs.size = some (nwSet w) := Heap.get?_push_size _ rfl
      have hT : Shared.TypeIs { s with heap := s.heap.push (nwSet w) } (.ref s.heap.objs.size) "set" := ⟨_, hS, rfl⟩
      have hli := PySem.F.called_set.init.lookup
      have hbi := PySem.F.called_set.init.bind (.ref s.heap.objs.size)
      repeat (any_goals (first | assumption | wp_step))
      refine codeAny_mono (codeAny_call_builtin (R := wants (fun r s₂ => r = .none ∧ ∃ h' tk c, s₂ = { s with heap := h', toks := tk } ∧
        SetR w h' s.heap.objs.size (fun j => decide (j ∈ ns)) c ∧ c ≤ ns.length ∧ (∀ b o, s.heap.get? b = some o → h'.get? b = some o)) E)
        PySem.F.called_set.init.plain PySem.F.entry_set_init (check_set_init_1 hT ?_)) fun r₂ s₂ hr₂ => ?_
      · obtain ⟨ol, hol, hcl, nl, hdl⟩ := hl
        obtain ⟨ocls, odict, odata, oslots⟩ := ol
        simp only at hcl hdl
        subst hcl; subst hdl
        have hol' : (s.heap.push (nwSet w)).get? l = some ⟨.type "list", odict, .seq items nl, oslots⟩ := Heap.get?_push_of_some _ hol
        have hsls := PySem.F.sub_list_set
        have hslf := PySem.F.sub_list_frozenset
        have hne : (Value.type "list" == Value.type "dict") = false := by decide
        have hl1 : (s.heap.push (nwSet w)).IsList l items := ⟨_, hol', rfl, nl, rfl⟩
        unfold Builtin.«set.__init__» noKeywords Builtin.Frozenset.updateFrom
        generalize hPI : pyIter = PI
        wp_walk
        subst hPI
        refine wpAny_pyIter_list hl1 (wpAny_bind (wpAny_runValue ?_))
        have hlS : l < s.heap.objs.size := Heap.lt_size hol
        have hh3 : A.in1.in1.in1.handled = none := by simp [hh]
        have hz : (s.heap.push (nwSet w)).objs.size = s.heap.objs.size + 1 := Heap.size_push ..
        have hneI : l ≠ (s.heap.push (nwSet w)).objs.size := by rw [hz]; exact Nat.ne_of_lt (Nat.lt_succ_of_lt hlS)
        have hSf : s.heap.objs.size ∉ [(s.heap.push (nwSet w)).objs.size, l] := fun hm => by
          rcases List.mem_cons.mp hm with e | e
          · exact absurd (e.trans hz) (Nat.ne_of_lt (Nat.lt_succ_self _))
          · exact absurd (List.mem_singleton.mp e).symm (Nat.ne_of_lt hlS)
        have hval : ∀ (i : Nat) (v : Value), items[i]? = some v → ∃ k t, ns[i]? = some k ∧ v = .int k t := fun i v hv => by
          have hi : i < ns.length := by rw [← hisz]; exact (Array.getElem?_eq_some_iff.mp hv).1
          obtain ⟨t, e⟩ := IntsAre.int_at hit i v (by rw [Array.getElem?_toList]; exact hv)
          exact ⟨ns[i], t, List.getElem?_eq_getElem hi, by rw [e, List.getD_eq_getElem?_getD, List.getElem?_eq_getElem hi]; rfl⟩
        refine set_update_ints ((Walks.list hh3 _ l hneI items).toS) s.heap.objs.size hSf ns hisz hb hval (items.size - 0) 0 _ (by omega) (Nat.zero_le _)
          ⟨⟨_, Heap.get?_push_size _ rfl, rfl, rfl⟩, (hl1.push _)⟩ ⟨0, Nat.le_refl 0, setR_new_at (Heap.get?_push_of_some _ hS)⟩ fun s' c' hm hc' hS' => ?_
        obtain ⟨h', g2, d', tk', os'⟩ := s'
        obtain rfl : g2 = s.gens := hm.gens
        obtain rfl : d' = s.drawn := hm.drawn
        obtain rfl : os' = s.os := hm.os
        show wpAny _ _ _ _ _ _
        refine wpAny_pure ?_
        show wpAny _ _ (ret Value.none) _ _ _
        rw [hisz] at hc'
        refine wpAny_pure ⟨rfl, h', tk', c', rfl, hS', hc', fun b o e => hm.heap b o (fun hmem => ?_) (Heap.get?_push_of_some _ (Heap.get?_push_of_some _ e))⟩
        have hb0 : b < s.heap.objs.size := Heap.lt_size e
        rcases List.mem_cons.mp hmem with e1 | e1
        · exact absurd e1 (Nat.ne_of_lt hb0)
        · exact absurd ((List.mem_singleton.mp e1).trans hz) (Nat.ne_of_lt (Nat.lt_succ_of_lt hb0))
      · cases r₂ with
        | error e => exact hr₂
        | ok fl₂ =>
          cases fl₂ with
          | ret r =>
            obtain ⟨rfl, h', tk, c', rfl, hS', hc', hk'⟩ := hr₂
            repeat (any_goals (first | assumption | wp_step))
            exact h _ _ _ hS' hc' hk'
          | _ => exact hr₂.elim
    | _ => exact hr.elim
end
/-! sorted(set(xs)) -/
def tSortSetL (K : PySem.W.Frag) (ta : TE) : TE := fun σ H Q => ta σ H fun x H1 => ∃ (l : Addr) (ns : List Int), x = .ref l ∧ SqL K H1 l (ns.map V.int) ∧ ns.length < 64 ∧
  ∀ (out : List Int) (p : Addr), out.Pairwise (· < ·) → (∀ k : Int, k ∈ out ↔ k ∈ ns) → H1 p = none → Q (.ref p) (upd H1 p (.lst (out.map V.int)))
theorem pe_sortSetL {X : Cx} {K : PySem.W.Frag} {a : Expr} {ta : TE} {p p2 q pos : Pos} (hK : X.K = K) (hc : X.calm = true) (hg : Gl X "sorted") (hm : X.mg "sorted" = none) (hg2 : Gl X "set") (hm2 : X.mg "set" = none) (ha : PE X a ta)
    (hb : bootBuiltins "sorted" = some (.builtin "sorted")) (na : starEach [a] X.env = (false, eval a X.env) :: starEach [] X.env := by rfl) : PE X (.Call (.Name "sorted" p) [.Call (.Name "set" p2) [a] [] q] [] pos) (tSortSetL K ta) := by
  subst hK
  refine ⟨fun pins s σ H Q I h => ?_⟩
  refine Call_ (ld_blt I hg hm hb ?_)
  refine callWith_builtin1 (args_cons ?_ rfl) rfl rfl
  refine Call_ (ld_blt I hg2 hm2 boot_set ?_)
  refine callWith_type1 (args_cons (thn (ha.run pins s σ H _ I h) fun v s1 ⟨x, H1, I1, r1, q1⟩ => args_nil ?_) na) na rfl
  obtain ⟨l, ns, rfl, hq, h64, q1⟩ := q1
  cases r1
  obtain ⟨its, rv, pt, hz⟩ := I1.list hq
  have hi : IntsAre its.toArray.toList ns := ints_of_vals rv
  have hd := I1.ok.hd hc
  refine call_set_lstI ns hd (show s1.heap.IsList l its.toArray from pt.isList) hi (by unfold scanBound; omega) fun h' tk c R1 hcn k => ?_
  refine args_nil ?_
  refine sorted_set (s := { s1 with heap := h', toks := tk }) R1 hd (by omega) fun s' p' out c' ns' k' g o hp hg' hi' hs hm' hl => ?_
  have hlen : (ns'.map V.int).length ≤ sizeLine := by rw [List.length_map, hl, sizeLine_eq]; omega
  have hlt : s1.heap.objs.size < h'.objs.size := R1.lt
  have hp1 : s1.heap.objs.size ≤ p' := Nat.le_trans (Nat.le_of_lt hlt) hp
  have kall : ∀ b u, s1.heap.get? b = some u → s'.heap.get? b = some u := fun b u e => k' b u (k b u e)
  have hn : H1 p' = none := I1.hok.fresh hp1
  have J : L2.Inv X pins σ (upd H1 p' (.lst (ns'.map V.int))) { s1 with heap := s'.heap, gens := s'.gens, drawn := s'.drawn, toks := s'.toks } :=
    I1.call (ch := []) (Un.laid kall hp1 hn) (I1.hok.laid kall hp1 ⟨hlen, out.toList, c', vals_of_ints hi', hg'⟩) (by rw [g]; exact I1.bare) (fun _ z => nomatch z)
  have e : s' = { s1 with heap := s'.heap, gens := s'.gens, drawn := s'.drawn, toks := s'.toks } := by
    cases s'
    cases s1
    cases o
    rfl
  rw [e]
  exact ⟨.ref p', _, J, rfl, q1 ns' p' hs (fun k => by rw [hm' k, decide_eq_true_eq]) hn⟩
def sSortSetL (a : SE) : SL := fun ρ c => (a ρ c).bind fun p => match p.1 with
  | .list xs => (intsD xs).bind fun ns => if ns.length < 64 then some ((sortU ns).map PyData.int, p.2) else none
  | _ => none
section
variable {K : PySem.W.Frag} {X : Cx}
theorem imp_sortSetL {te : TE} {a : SE} (ha : ImpE K te a) : ImpL K (tSortSetL K te) (sSortSetL a) := fun ad B σ H ρ c ds c' Q R h q => by
  obtain ⟨⟨x, c1⟩, h1, h⟩ := Option.bind_eq_some_iff.mp h
  cases x with
  | list xs =>
    obtain ⟨ns, e1, e2⟩ := Option.bind_eq_some_iff.mp (show ((intsD xs).bind fun ns => if ns.length < 64 then some ((sortU ns).map PyData.int, c1) else none) = some (ds, c') from h)
    split at e2
    · rename_i hl
      cases e2
      refine ha ad B σ H ρ c _ _ _ R h1 fun v B1 H1 f1 d1 => ?_
      obtain ⟨l, vs, rfl, g1, g2⟩ := dp_list d1
      refine ⟨l, ns, rfl, ?_, hl, fun out p s1 s2 np => ?_⟩
      · rw [← ints_ok g2 e1]; exact SqL.of (f1.bh _ _ g1)
      · have e : out = sortU ns := lt_unique s1 (sortU_lt ns) fun k => by rw [s2 k, mem_sortU]
        rw [e]
        exact q p _ B1 _ H1 f1 np rfl (dpAll_ints _)
    · cases e2
  | _ => cases h
/-! ### list(range(..)) -/
/-! ### texts -/
/-! ### truths among ints -/
/-! ### a def that calls itself: where nothing is promised -/
end
end DL
/-! DLz: is True, is not True. -/
namespace DL
open PySem PySem.Spec L2
section
variable {K : PySem.W.Frag}
def isBD : D → D → Option D
  | .bool a, .bool b => some (.bool (decide (a = b)))
  | _, _ => none
theorem d_isB : OpD K rIsB isBD := fun B H x y d e z Q s hx hy h q => by
  cases hx with
  | bl a =>
    cases hy with
    | bl b => cases h; exact ⟨a, b, rfl, rfl, q _ B H (Grow.refl s) (.bl _)⟩
    | _ => cases h
  | _ => cases h
end
end DL
namespace DL
open PySem PySem.Spec L2
section
variable {K : PySem.W.Frag} {X : Cx}
theorem call_isiK (h : X.K = K) : CallR X (.builtin "isinstance") (rIsi K) := by subst h; exact call_isi
end
end DL
/-! DLv: pop(k), insert, x[a:b] = .., of a list of one's own. -/
namespace DL
open PySem PySem.Spec L2 PyProof.Rows
/-! ### x[a:b] = y, b behind the end too -/
section
variable {prog : Program} {w : World} {A : Around} {E : Value → Shared → Prop} {s : Shared}
set_option maxRecDepth 100000 in
end
section
variable {K : PySem.W.Frag} {X : Cx}
/-! on data -/
/-! ### x.pop(k), x.insert(k, e) -/
end
end DL
/-! DLw: x or y, by truth. -/
namespace DL
open PySem PySem.Spec L2
section
variable {K : PySem.W.Frag} {X : Cx}
end
end DL
/-! DE: how meanings reckon: lemmas for simp, and loops by the state at each turn. -/
namespace DL
open PySem PySem.Spec L2
section
variable {ρ ρ' ρ1 : Rho} {c c' c1 : Dr} {i j : Nat}
@[simp] theorem ev_sV : sV i ρ c = (match ρ[i]? with | some (.im d) => some (d, c) | _ => none) := Eq.trans rfl rfl
@[simp] theorem ev_sC {d : D} : sC d ρ c = some (d, c) := Eq.trans rfl rfl
@[simp] theorem ev_sOp {g : D → D → Option D} {a b : SE} : sOp g a b ρ c = (a ρ c).bind fun p => (b ρ p.2).bind fun q => (g p.1 q.1).bind fun z => some (z, q.2) := Eq.trans rfl rfl
@[simp] theorem ev_sUn {g : D → Option D} {a : SE} : sUn g a ρ c = (a ρ c).bind fun p => (g p.1).bind fun z => some (z, p.2) := Eq.trans rfl rfl
@[simp] theorem ev_sB {a : SE} : sB a ρ c = (a ρ c).bind fun p => match p.1 with | .bool b => some (b, p.2) | _ => none := Eq.trans rfl rfl
@[simp] theorem ev_sTr {a : SE} : sTr a ρ c = (a ρ c).bind fun p => (truD p.1).bind fun b => some (b, p.2) := Eq.trans rfl rfl
@[simp] theorem ev_sAnd {a b : SB} : sAnd a b ρ c = (a ρ c).bind fun p => if p.1 = true then b ρ p.2 else some (false, p.2) := Eq.trans rfl rfl
@[simp] theorem ev_sOr {a b : SB} : sOr a b ρ c = (a ρ c).bind fun p => if p.1 = true then some (true, p.2) else b ρ p.2 := Eq.trans rfl rfl
@[simp] theorem ev_sNot {a : SB} : sNot a ρ c = (a ρ c).bind fun p => some (!p.1, p.2) := Eq.trans rfl rfl
@[simp] theorem ev_sAndV {a b : SE} : sAndV a b ρ c = (sB a ρ c).bind fun p => if p.1 = true then b ρ p.2 else some (.bool false, p.2) := Eq.trans rfl rfl
@[simp] theorem ev_sOrV {a b : SE} : sOrV a b ρ c = (sB a ρ c).bind fun p => if p.1 = true then some (.bool true, p.2) else b ρ p.2 := Eq.trans rfl rfl
@[simp] theorem ev_sNotV {a : SE} : sNotV a ρ c = (sB a ρ c).bind fun p => some (.bool (!p.1), p.2) := Eq.trans rfl rfl
@[simp] theorem ev_sIfE {t : SB} {a b : SE} : sIfE t a b ρ c = (t ρ c).bind fun p => if p.1 = true then a ρ p.2 else b ρ p.2 := Eq.trans rfl rfl
@[simp] theorem ev_sChain {g g' : D → D → Option D} {a b e : SE} : sChain g g' a b e ρ c = (a ρ c).bind fun p => (b ρ p.2).bind fun q => (g p.1 q.1).bind fun z => match z with
  | .bool true => (e ρ q.2).bind fun w => (g' q.1 w.1).bind fun z' => some (z', w.2)
  | .bool false => some (.bool false, q.2)
  | _ => none := Eq.trans rfl rfl
@[simp] theorem ev_sNil : sNil ρ c = some ([], c) := Eq.trans rfl rfl
@[simp] theorem ev_sCons {a : SE} {b : SA} : sCons a b ρ c = (a ρ c).bind fun p => (b ρ p.2).bind fun q => some (p.1 :: q.1, q.2) := Eq.trans rfl rfl
@[simp] theorem ev_sTup {a : SA} : sTup a ρ c = (a ρ c).bind fun p => if few p.1.length = true then some (.tuple p.1, p.2) else none := Eq.trans rfl rfl
@[simp] theorem ev_sLst {a : SA} : sLst a ρ c = (a ρ c).bind fun p => if few p.1.length = true then some (.list p.1, p.2) else none := Eq.trans rfl rfl
@[simp] theorem ev_sCB {g : List D → Option D} {a : SA} : sCB g a ρ c = (a ρ c).bind fun p => (g p.1).bind fun z => some (z, p.2) := Eq.trans rfl rfl
@[simp] theorem ev_sNoP : sNoP ρ c = some (none, c) := Eq.trans rfl rfl
@[simp] theorem ev_sP {a : SE} : sP a ρ c = (a ρ c).bind fun p => match p.1 with | .int i => some (some i, p.2) | _ => none := Eq.trans rfl rfl
@[simp] theorem ev_sSl {g : D → Option Int → Option Int → Option D} {a : SE} {l h : SO} : sSl g a l h ρ c = (a ρ c).bind fun p => (l ρ p.2).bind fun q => (h ρ q.2).bind fun r => (g p.1 q.1 r.1).bind fun z => some (z, r.2) := Eq.trans rfl rfl
@[simp] theorem ev_qN {d : D} : qN i d ρ = some (ρ.set i (.im d)) := Eq.trans rfl rfl
@[simp] theorem ev_qTup {g : List D → Rho → Option Rho} {ds : List D} : qTup g (.tuple ds) ρ = g ds ρ := Eq.trans rfl rfl
@[simp] theorem ev_qCons {g : D → Rho → Option Rho} {h : List D → Rho → Option Rho} {d : D} {ds : List D} : qCons g h (d :: ds) ρ = (g d ρ).bind fun ρ' => h ds ρ' := Eq.trans rfl rfl
@[simp] theorem ev_qNil : qNil [] ρ = some ρ := Eq.trans rfl rfl
@[simp] theorem ev_sSeq {f g : SS} : sSeq f g ρ c = (f ρ c).bind fun r => match r with | (.nx, ρ1, c1) => g ρ1 c1 | r => some r := Eq.trans rfl rfl
@[simp] theorem ev_sNext : sNext ρ c = some (.nx, ρ, c) := Eq.trans rfl rfl
@[simp] theorem ev_sRet {a : SE} : sRet a ρ c = (a ρ c).bind fun p => some (.rt p.1, ρ, p.2) := Eq.trans rfl rfl
@[simp] theorem ev_sIfS {t : SB} {f g : SS} : sIfS t f g ρ c = (t ρ c).bind fun p => if p.1 = true then f ρ p.2 else g ρ p.2 := Eq.trans rfl rfl
@[simp] theorem ev_sAsg {a : SE} {g : D → Rho → Option Rho} : sAsg a g ρ c = (a ρ c).bind fun p => (g p.1 ρ).bind fun ρ' => some (.nx, ρ', p.2) := Eq.trans rfl rfl
@[simp] theorem ev_sAug {g : D → D → Option D} {a : SE} : sAug g i a ρ c = (match ρ[i]? with | some (.im d) => (a ρ c).bind fun p => (g d p.1).bind fun z => some (.nx, ρ.set i (.im z), p.2) | _ => none) := Eq.trans rfl rfl
@[simp] theorem ev_sOfL {f : SL} : sOfL f ρ c = (f ρ c).bind fun p => some (.list p.1, p.2) := Eq.trans rfl rfl
@[simp] theorem ev_sAsgL {f : SL} : sAsgL f i ρ c = (f ρ c).bind fun p => some (.nx, ρ.set i (.ol p.1), p.2) := Eq.trans rfl rfl
@[simp] theorem ev_sFrz {f : SS} : sFrz i f ρ c = (match ρ[i]? with | some (.ol ds) => f (ρ.set i (.im (.list ds))) c | _ => none) := Eq.trans rfl rfl
@[simp] theorem ev_sApp {a : SE} : sApp i a ρ c = (match ρ[i]? with | some (.ol xs) => (a ρ c).bind fun p => if few xs.length = true then some (.nx, ρ.set i (.ol (xs ++ [p.1])), p.2) else none | _ => none) := Eq.trans rfl rfl
@[simp] theorem ev_sIxO {k : SE} : sIxO i k ρ c = (match ρ[i]? with | some (.ol xs) => ((k ρ c).bind fun q => (match q.1 with | .int j => (atI xs j).bind fun x0 => some (x0, q.2) | _ => none)) | _ => none) := Eq.trans rfl rfl
@[simp] theorem ev_sSetI {k a : SE} : sSetI i k a ρ c = (match ρ[i]? with | some (.ol xs) => ((a ρ c).bind fun p => (k ρ p.2).bind fun q => (match q.1 with | .int j => (ixN xs.length j).bind fun m => some (.nx, ρ.set i (.ol (xs.set m p.1)), q.2) | _ => none)) | _ => none) := Eq.trans rfl rfl
@[simp] theorem ev_sFl {f : SE} : sFl i f ρ c = (match ρ[i]? with | some (.ol xs) => (f (ρ.set i (.im (.list xs))) c).bind fun p => if flatD p.1 = true then some p else none | _ => none) := Eq.trans rfl rfl
@[simp] theorem ev_sFlT {f : SB} : sFlT i f ρ c = (match ρ[i]? with | some (.ol xs) => f (ρ.set i (.im (.list xs))) c | _ => none) := Eq.trans rfl rfl
@[simp] theorem ev_sItL {a : SE} : sItL a ρ c = (a ρ c).bind fun p => match p.1 with | .list xs => some (xs, p.2) | _ => none := Eq.trans rfl rfl
@[simp] theorem ev_sItT {a : SE} : sItT a ρ c = (a ρ c).bind fun p => match p.1 with | .tuple xs => some (xs, p.2) | _ => none := Eq.trans rfl rfl
@[simp] theorem ev_sR1 {a : SA} : sR1 a ρ c = (a ρ c).bind fun p => match p.1 with | [.int j] => if okR j = true then some (rngL 0 j.toNat, p.2) else none | _ => none := Eq.trans rfl rfl
@[simp] theorem ev_sR2 {a : SA} : sR2 a ρ c = (a ρ c).bind fun p => match p.1 with | [.int i, .int j] => if okR i = true ∧ okR j = true then some (rngL i (j - i).toNat, p.2) else none | _ => none := Eq.trans rfl rfl
@[simp] theorem ev_sR3 {a : SA} : sR3 a ρ c = (a ρ c).bind fun p => match p.1 with | [.int i, .int j, .int e] => if okR3 i j e = true then some (stpL i e (Builtin.Range.rangeSize i j e).toNat, p.2) else none | _ => none := Eq.trans rfl rfl
@[simp] theorem ev_sEnum {a : SE} : sEnum a ρ c = (a ρ c).bind fun p => (seqD p.1).bind fun xs => some (enumL xs, p.2) := Eq.trans rfl rfl
@[simp] theorem ev_sZip {a b : SE} : sZip a b ρ c = (a ρ c).bind fun p => (b ρ p.2).bind fun q => (seqD p.1).bind fun xs => (seqD q.1).bind fun ys => some (zipL xs ys, q.2) := Eq.trans rfl rfl
@[simp] theorem ev_sYes : sYes ρ c = some (true, c) := Eq.trans rfl rfl
@[simp] theorem ev_sLc {f : SI} {g : D → Rho → Option Rho} {t : SB} {e : SE} {vs : List Nat} : sLc f g t e vs ρ c = (f ρ c).bind fun p => if few p.1.length = true then lcS g t e (wipeR ρ vs) p.1 p.2 else none := Eq.trans rfl rfl
@[simp] theorem ev_wipe0 : wipeR ρ [] = ρ := Eq.trans rfl rfl
@[simp] theorem ev_wipe1 {v : Nat} {vs : List Nat} : wipeR ρ (v :: vs) = (wipeR ρ vs).set v .un := Eq.trans rfl rfl
@[simp] theorem ev_unset0 : unset [] ρ = ρ := Eq.trans rfl rfl
@[simp] theorem ev_unset1 {v : Nat} {vs : List Nat} : unset (v :: vs) ρ = unset vs (ρ.set v .un) := Eq.trans rfl rfl
@[simp] theorem ev_sCall {F : List D → Option D} {a : SA} : sCall F a ρ c = (a ρ c).bind fun p => (F p.1).bind fun d => some (d, p.2) := Eq.trans rfl rfl
@[simp] theorem ev_sCallD {F : List D → Dr → Option (D × Dr)} {a : SA} : sCallD F i a ρ c = (match ρ[i]? with | some .dr => (a ρ c).bind fun p => F p.1 p.2 | _ => none) := Eq.trans rfl rfl
@[simp] theorem ev_sCallK {F : List D → Option D} {gV : List D → List D → List D} {a b : SA} : sCallK F gV a b ρ c = (a ρ c).bind fun p => (b ρ p.2).bind fun q => (F (gV p.1 q.1)).bind fun d => some (d, q.2) := Eq.trans rfl rfl
@[simp] theorem ev_sListOf {a : SA} : sListOf a ρ c = (a ρ c).bind fun p => match p.1 with | [.list xs] => some (xs, p.2) | [.tuple xs] => some (xs, p.2) | _ => none := Eq.trans rfl rfl
@[simp] theorem ev_sDispL {a : SA} : sDispL a ρ c = (a ρ c).bind fun p => if few p.1.length = true then some p else none := Eq.trans rfl rfl
@[simp] theorem ev_sRepL {a : SL} {b : SE} : sRepL a b ρ c = (a ρ c).bind fun p => (b ρ p.2).bind fun q => match q.1 with | .int k => if few p.1.length = true ∧ p.1.length * k.toNat ≤ 1000000 ∧ -1000000 ≤ k ∧ k ≤ 1000000 then some ((List.replicate k.toNat p.1).flatten, q.2) else none | _ => none := Eq.trans rfl rfl
@[simp] theorem ev_sDGet2 {k x : SE} : sDGet2 i k x ρ c = (dictAt ρ[i]?).bind fun kvs => (k ρ c).bind fun p => match p.1 with | .int j => (x ρ p.2).bind fun q => some ((kvLook kvs j).getD q.1, q.2) | _ => none := Eq.trans rfl rfl
@[simp] theorem ev_sIsi {k : Cl} {a : SE} : sIsi k a ρ c = (a ρ c).bind fun p => some (.bool (isB k p.1), p.2) := Eq.trans rfl rfl
@[simp] theorem ev_sIsi2 {k l : Cl} {a : SE} : sIsi2 k l a ρ c = (a ρ c).bind fun p => some (.bool (isB k p.1 || isB l p.1), p.2) := Eq.trans rfl rfl
@[simp] theorem ev_sSl3 {a : SE} {l h s : SO} : sSl3 a l h s ρ c = (a ρ c).bind fun p => (l ρ p.2).bind fun q => (h ρ q.2).bind fun r => (s ρ r.2).bind fun o => match p.1 with
  | .list xs => if o.1 = some 0 then none else if few (pickL xs q.1 r.1 o.1).length = true then some (.list (pickL xs q.1 r.1 o.1), o.2) else none
  | _ => none := Eq.trans rfl rfl
@[simp] theorem ev_sAvNil : sAvNil ρ c = some ([], c) := Eq.trans rfl rfl
@[simp] theorem ev_sAvP {a : SE} {b : SV} : sAvP a b ρ c = (a ρ c).bind fun p => (b ρ p.2).bind fun q => some (.pl p.1 :: q.1, q.2) := Eq.trans rfl rfl
@[simp] theorem ev_sAvF {a : SL} {b : SV} : sAvF a b ρ c = (a ρ c).bind fun p => (b ρ p.2).bind fun q => some (.fr p.1 :: q.1, q.2) := Eq.trans rfl rfl
@[simp] theorem ev_sMany {is : List Nat} {f : SV} : sMany is f ρ c = (f ρ c).bind fun p => if is.length = p.1.length then some (.nx, setAv is p.1 ρ, p.2) else none := Eq.trans rfl rfl
@[simp] theorem ev_setAv {a : AV} {as : List AV} {is : List Nat} : setAv (i :: is) (a :: as) ρ = setAv is as (ρ.set i (slOf a)) := Eq.trans rfl rfl
@[simp] theorem ev_setAv0 {as : List AV} : setAv [] as ρ = ρ := by cases as <;> rfl
@[simp] theorem ev_slP {d : D} : slOf (.pl d) = .im d := Eq.trans rfl rfl
@[simp] theorem ev_slF {ds : List D} : slOf (.fr ds) = .ol ds := Eq.trans rfl rfl
@[simp] theorem ev_sDrIx {k : SE} : sDrIx i k ρ c = (match ρ[i]? with | some .dr => ((k ρ c).bind fun q => (match q.1 with | .int j => if j = 0 then some (.int q.2.1, q.2) else if j = 1 then some (.int q.2.2, q.2) else none | _ => none)) | _ => none) := Eq.trans rfl rfl
@[simp] theorem ev_sDrSet {k a : SE} : sDrSet i k a ρ c = (match ρ[i]? with | some .dr => ((a ρ c).bind fun p => (k ρ p.2).bind fun q => (match q.1, p.1 with | .int j, .int x => if j = 0 then some (.nx, ρ, (x, q.2.2)) else if j = 1 then some (.nx, ρ, (q.2.1, x)) else none | _, _ => none)) | _ => none) := Eq.trans rfl rfl
@[simp] theorem ev_addII {a b : Int} : addD (.int a) (.int b) = some (.int (a + b)) := Eq.trans rfl rfl
@[simp] theorem ev_addTT {a b : List D} : addD (.tuple a) (.tuple b) = if few (a.length + b.length) = true then some (.tuple (a ++ b)) else none := Eq.trans rfl rfl
@[simp] theorem ev_addLL {a b : List D} : addD (.list a) (.list b) = if few (a.length + b.length) = true then some (.list (a ++ b)) else none := Eq.trans rfl rfl
@[simp] theorem ev_subII {a b : Int} : subD (.int a) (.int b) = some (.int (a - b)) := Eq.trans rfl rfl
@[simp] theorem ev_modII {a b : Int} : modD (.int a) (.int b) = if 0 < b then some (.int (a % b)) else none := Eq.trans rfl rfl
@[simp] theorem ev_negI {a : Int} : negD (.int a) = some (.int (-a)) := Eq.trans rfl rfl
@[simp] theorem ev_cmpII {p : Int → Int → Bool} {a b : Int} : cmpD p (.int a) (.int b) = some (.bool (p a b)) := Eq.trans rfl rfl
@[simp] theorem ev_ixL {xs : List D} {j : Int} : ixD (.list xs) (.int j) = atI xs j := Eq.trans rfl rfl
@[simp] theorem ev_ixT {xs : List D} {j : Int} : ixD (.tuple xs) (.int j) = atI xs j := Eq.trans rfl rfl
@[simp] theorem ev_slL {xs : List D} {l h : Option Int} : slD (.list xs) l h = some (.list (cutL xs l h)) := Eq.trans rfl rfl
@[simp] theorem ev_slT {xs : List D} {l h : Option Int} : slD (.tuple xs) l h = some (.tuple (cutL xs l h)) := Eq.trans rfl rfl
@[simp] theorem ev_lenL {xs : List D} : lenD [.list xs] = some (.int xs.length) := Eq.trans rfl rfl
@[simp] theorem ev_lenT {xs : List D} : lenD [.tuple xs] = some (.int xs.length) := Eq.trans rfl rfl
@[simp] theorem ev_tupL {xs : List D} : tupleD [.list xs] = some (.tuple xs) := Eq.trans rfl rfl
@[simp] theorem ev_tupT {xs : List D} : tupleD [.tuple xs] = some (.tuple xs) := Eq.trans rfl rfl
@[simp] theorem ev_minII {a b : Int} : minD [.int a, .int b] = some (.int (min a b)) := Eq.trans rfl rfl
@[simp] theorem ev_maxII {a b : Int} : maxD [.int a, .int b] = some (.int (max a b)) := Eq.trans rfl rfl
@[simp] theorem ev_minSS {a b : Int} : minS [.int a, .int b] = some (.int (min a b)) := Eq.trans rfl rfl
@[simp] theorem ev_maxSS {a b : Int} : maxS [.int a, .int b] = some (.int (max a b)) := Eq.trans rfl rfl
@[simp] theorem ev_revA {a : SE} : sRevA a ρ c = (a ρ c).bind fun p => (match p.1 with
  | .tuple xs => if few xs.length = true then some (.tuple xs.reverse, p.2) else none
  | _ => none) := Eq.trans rfl rfl
@[simp] theorem ev_int1B {b : Bool} : intD [.bool b] = some (.int (if b then 1 else 0)) := Eq.trans rfl rfl
@[simp] theorem ev_seqL {xs : List D} : seqD (.list xs) = some xs := Eq.trans rfl rfl
@[simp] theorem ev_seqT {xs : List D} : seqD (.tuple xs) = some xs := Eq.trans rfl rfl
@[simp] theorem ev_truB {b : Bool} : truD (.bool b) = some b := Eq.trans rfl rfl
@[simp] theorem ev_isN {d : D} : isND d .none = some (.bool (match d with | .none => true | _ => false)) := Eq.trans rfl rfl
end
/-! ### running -/
section
variable {ρ ρ' ρ1 ρ0 : Rho} {c c' c1 c0 : Dr} {f g h : SS} {r : Fl × Rho × Dr}
theorem seq_run (h1 : f ρ c = some (.nx, ρ1, c1)) (h2 : g ρ1 c1 = some r) : sSeq f g ρ c = some r := by unfold sSeq; rw [h1]; exact h2
theorem seq_rt {d : D} (h1 : f ρ c = some (.rt d, ρ1, c1)) : sSeq f g ρ c = some (.rt d, ρ1, c1) := by unfold sSeq; rw [h1]; rfl
theorem then_run {is : List Nat} (h1 : f ρ c = some (.nx, ρ1, c1)) (e : unset is ρ1 = ρ') : sThen is f ρ c = some (.nx, ρ', c1) := by unfold sThen; rw [h1, ← e]; rfl
theorem then_rt {is : List Nat} {d : D} (h1 : f ρ c = some (.rt d, ρ1, c1)) : sThen is f ρ c = some (.rt d, ρ1, c1) := by unfold sThen; rw [h1]; rfl
theorem frz_run {i : Nat} {ds : List D} (e : ρ[i]? = some (.ol ds)) (h1 : f (ρ.set i (.im (.list ds))) c = some r) : sFrz i f ρ c = some r := by unfold sFrz; rw [e]; exact h1
theorem ret_run {a : SE} {d : D} (h1 : a ρ c = some (d, c1)) : sRet a ρ c = some (.rt d, ρ, c1) := by unfold sRet; rw [h1]; rfl
theorem ifT {t : SB} (h0 : t ρ c = some (true, c1)) (h1 : f ρ c1 = some r) : sIfS t f g ρ c = some r := by unfold sIfS; rw [h0]; exact h1
theorem ifF {t : SB} (h0 : t ρ c = some (false, c1)) (h1 : g ρ c1 = some r) : sIfS t f g ρ c = some r := by unfold sIfS; rw [h0]; exact h1
/-- runs to a result of which P holds -/
def Runs (f : SS) (ρ : Rho) (c : Dr) (P : Fl × Rho × Dr → Prop) : Prop := ∃ r, f ρ c = some r ∧ P r
abbrev IsRt (d : D) : Fl × Rho × Dr → Prop := fun r => r.1 = .rt d
theorem bodyP_of {m n : Nat} {ds : List D} {d : D} (hm : ds.length = m) (h1 : Runs f (ds.map .im ++ List.replicate n .un) (0, 0) (IsRt d)) : bodyP m n f ds = some d := by
  obtain ⟨⟨fl, ρ, c⟩, e1, e2⟩ := h1
  obtain rfl : fl = .rt d := e2
  unfold bodyP; rw [if_pos hm, e1]; rfl
/-- a drawing def's result -/
theorem bodyD_of {m n : Nat} {ds : List D} {P : D → Dr → Prop} (hm : ds.length = m) (h1 : Runs f (.dr :: (ds.map .im ++ List.replicate n .un)) c fun r => ∃ d, r.1 = .rt d ∧ P d r.2.2) : ∃ d c', bodyD m n f ds c = some (d, c') ∧ P d c' := by
  obtain ⟨⟨fl, ρ, c'⟩, e1, d, e2, e3⟩ := h1
  obtain rfl : fl = .rt d := e2
  refine ⟨d, c', ?_, e3⟩
  unfold bodyD; rw [if_pos hm, e1]; rfl
section
variable {P : Fl × Rho × Dr → Prop}
theorem Runs.seq (h1 : f ρ c = some (.nx, ρ1, c1)) (h2 : Runs g ρ1 c1 P) : Runs (sSeq f g) ρ c P := by
  obtain ⟨r, e1, e2⟩ := h2
  exact ⟨r, seq_run h1 e1, e2⟩
theorem Runs.rt {d : D} (h1 : f ρ c = some (.rt d, ρ1, c1)) (h2 : P (.rt d, ρ1, c1)) : Runs (sSeq f g) ρ c P := ⟨_, seq_rt h1, h2⟩
theorem Runs.frz {i : Nat} {ds : List D} (e : ρ[i]? = some (.ol ds)) (h1 : Runs f (ρ.set i (.im (.list ds))) c P) : Runs (sFrz i f) ρ c P := by
  obtain ⟨r, e1, e2⟩ := h1
  exact ⟨r, frz_run e e1, e2⟩
theorem Runs.ret {a : SE} {d : D} (h1 : a ρ c = some (d, c1)) (h2 : P (.rt d, ρ, c1)) : Runs (sRet a) ρ c P := ⟨_, ret_run h1, h2⟩
theorem Runs.ifT {t : SB} (h0 : t ρ c = some (true, c1)) (h1 : Runs f ρ c1 P) : Runs (sIfS t f g) ρ c P := by
  obtain ⟨r, e1, e2⟩ := h1
  exact ⟨r, DL.ifT h0 e1, e2⟩
theorem Runs.ifF {t : SB} (h0 : t ρ c = some (false, c1)) (h1 : Runs g ρ c1 P) : Runs (sIfS t f g) ρ c P := by
  obtain ⟨r, e1, e2⟩ := h1
  exact ⟨r, DL.ifF h0 e1, e2⟩
/-- a guard that does not hold: if t: return .. -/
theorem Runs.pass {t : SB} (h0 : t ρ c = some (false, c1)) (h1 : Runs h ρ c1 P) : Runs (sSeq (sIfS t f sNext) h) ρ c P := .seq (DL.ifF h0 rfl) h1
theorem Runs.leave {t : SB} {a : SE} {d : D} {c2 : Dr} (h0 : t ρ c = some (true, c1)) (h1 : a ρ c1 = some (d, c2)) (h2 : P (.rt d, ρ, c2)) : Runs (sSeq (sIfS t (sRet a) g) h) ρ c P := .rt (DL.ifT h0 (ret_run h1)) h2
end
theorem forS_run {tg : D → Rho → Option Rho} {body : SS} : ∀ {xs : List D} (st : Nat → Rho) (cc : Nat → Dr), (∀ i x, xs[i]? = some x → ∃ ρ1, tg x (st i) = some ρ1 ∧ body ρ1 (cc i) = some (.nx, st (i + 1), cc (i + 1))) → forS tg body xs (st 0) (cc 0) = some (.nx, st xs.length, cc xs.length)
  | [], st, cc, _ => rfl
  | x :: xs, st, cc, h => by
    obtain ⟨ρ1, e1, e2⟩ := h 0 x rfl
    show ((tg x (st 0)).bind fun ρ1 => _) = _
    rw [e1]
    show ((body ρ1 (cc 0)).bind fun r => _) = _
    rw [e2]
    exact forS_run (fun i => st (i + 1)) (fun i => cc (i + 1)) fun i y e => h (i + 1) y e
theorem for_run {fi : SI} {tg : D → Rho → Option Rho} {body : SS} {xs : List D} (st : Nat → Rho) (h0 : fi ρ c = some (xs, c1)) (h1 : ρ = st 0) (h2 : ∀ i x, xs[i]? = some x → ∃ ρ1, tg x (st i) = some ρ1 ∧ body ρ1 c1 = some (.nx, st (i + 1), c1)) : sFor fi tg body ρ c = some (.nx, st xs.length, c1) := by
  unfold sFor
  rw [h0, h1]
  exact forS_run st (fun _ => c1) h2
/-- a loop by what holds at each turn -/
theorem forS_inv {tg : D → Rho → Option Rho} {body : SS} : ∀ {xs : List D} (I : Nat → Rho → Dr → Prop) {ρ : Rho} {c : Dr}, I 0 ρ c → (∀ i x ρ c, xs[i]? = some x → I i ρ c → ∃ ρ1 ρ2 c2, tg x ρ = some ρ1 ∧ body ρ1 c = some (.nx, ρ2, c2) ∧ I (i + 1) ρ2 c2) → ∃ ρ' c', forS tg body xs ρ c = some (.nx, ρ', c') ∧ I xs.length ρ' c'
  | [], I, ρ, c, h0, _ => ⟨ρ, c, rfl, h0⟩
  | x :: xs, I, ρ, c, h0, h => by
    obtain ⟨ρ1, ρ2, c2, e1, e2, e3⟩ := h 0 x ρ c rfl h0
    obtain ⟨ρ', c', e4, e5⟩ := forS_inv (xs := xs) (fun i => I (i + 1)) e3 fun i y ρ c e => h (i + 1) y ρ c e
    refine ⟨ρ', c', ?_, e5⟩
    show ((tg x ρ).bind fun ρ1 => _) = _
    rw [e1]
    show ((body ρ1 c).bind fun r => _) = _
    rw [e2]
    exact e4
theorem for_inv {fi : SI} {tg : D → Rho → Option Rho} {body : SS} {xs : List D} (I : Nat → Rho → Dr → Prop) (h0 : fi ρ c = some (xs, c1)) (h1 : I 0 ρ c1) (h2 : ∀ i x ρ c, xs[i]? = some x → I i ρ c → ∃ ρ1 ρ2 c2, tg x ρ = some ρ1 ∧ body ρ1 c = some (.nx, ρ2, c2) ∧ I (i + 1) ρ2 c2) : ∃ ρ' c', sFor fi tg body ρ c = some (.nx, ρ', c') ∧ I xs.length ρ' c' := by
  unfold sFor
  rw [h0]
  exact forS_inv I h1 h2
/-- a comprehension, item by item -/
theorem lcS_run {tg : D → Rho → Option Rho} {t : SB} {e : SE} {ρ0 : Rho} : ∀ {xs : List D} (f : D → Option D), (∀ x ∈ xs, ∃ ρ1, tg x ρ0 = some ρ1 ∧ match f x with
    | some y => t ρ1 c = some (true, c) ∧ e ρ1 c = some (y, c)
    | none => t ρ1 c = some (false, c)) → lcS tg t e ρ0 xs c = some (xs.filterMap f, c)
  | [], f, _ => rfl
  | x :: xs, f, h => by
    obtain ⟨ρ1, e1, e2⟩ := h x List.mem_cons_self
    have ih := lcS_run (xs := xs) f fun y hy => h y (List.mem_cons_of_mem _ hy)
    show ((tg x ρ0).bind fun ρ1 => _) = _
    rw [e1]
    show ((t ρ1 c).bind fun p => _) = _
    rw [List.filterMap_cons]
    cases q : f x with
    | none =>
      rw [q] at e2
      rw [show t ρ1 c = some (false, c) from e2]
      exact ih
    | some y =>
      rw [q] at e2
      rw [show t ρ1 c = some (true, c) from e2.1]
      show ((e ρ1 c).bind fun q => (lcS tg t e ρ0 xs q.2).bind fun r => some (q.1 :: r.1, r.2)) = _
      rw [show e ρ1 c = some (y, c) from e2.2]
      show (lcS tg t e ρ0 xs c).bind (fun r => some (y :: r.1, r.2)) = _
      rw [ih]
      rfl
theorem lcS_map {tg : D → Rho → Option Rho} {e : SE} {ρ0 : Rho} {xs : List D} (f : D → D) (h : ∀ x ∈ xs, ∃ ρ1, tg x ρ0 = some ρ1 ∧ e ρ1 c = some (f x, c)) : lcS tg sYes e ρ0 xs c = some (xs.map f, c) := by
  rw [lcS_run (c := c) (fun x => some (f x)) fun x hx => ?_]
  · rw [List.filterMap_eq_map']
  · obtain ⟨ρ1, e1, e2⟩ := h x hx
    exact ⟨ρ1, e1, rfl, e2⟩
/-- a comprehension that draws -/
theorem lcS_draw {tg : D → Rho → Option Rho} {e : SE} {ρ0 : Rho} (G : D → Prop) (OK : Dr → Prop) : ∀ {xs : List D} {c : Dr}, OK c → (∀ x ∈ xs, ∃ ρ1, tg x ρ0 = some ρ1 ∧ ∀ c, OK c → ∃ d c', e ρ1 c = some (d, c') ∧ G d ∧ OK c') → ∃ ds c', lcS tg sYes e ρ0 xs c = some (ds, c') ∧ ds.length = xs.length ∧ (∀ d ∈ ds, G d) ∧ OK c'
  | [], c, hc, _ => ⟨[], c, rfl, rfl, fun _ h => (by cases h), hc⟩
  | x :: xs, c, hc, h => by
    obtain ⟨ρ1, e1, e2⟩ := h x List.mem_cons_self
    obtain ⟨d, c1, e3, hd, hc1⟩ := e2 c hc
    obtain ⟨ds, c2, e4, hl, hG, hc2⟩ := lcS_draw G OK (xs := xs) hc1 fun y hy => h y (List.mem_cons_of_mem _ hy)
    refine ⟨d :: ds, c2, ?_, by rw [List.length_cons, List.length_cons, hl], fun z hz => ?_, hc2⟩
    · show ((tg x ρ0).bind fun ρ1 => _) = _
      rw [e1]
      show ((e ρ1 c).bind fun q => (lcS tg sYes e ρ0 xs q.2).bind fun r => some (q.1 :: r.1, r.2)) = _
      rw [e3]
      show (lcS tg sYes e ρ0 xs c1).bind (fun r => some (d :: r.1, r.2)) = _
      rw [e4]
      rfl
    · rcases List.mem_cons.mp hz with w | w
      · rw [w]; exact hd
      · exact hG z w
end
/-! ### lists of ints -/
def iL (xs : List Int) : List D := xs.map .int
@[simp] theorem iL_len {xs : List Int} : (iL xs).length = xs.length := by unfold iL; rw [List.length_map]
def gI (xs : List Int) (i : Nat) : Int := xs.getD i 0
theorem iL_get {xs : List Int} {i : Nat} : (iL xs)[i]? = xs[i]?.map .int := by unfold iL; rw [List.getElem?_map]
theorem iL_app {xs ys : List Int} : iL (xs ++ ys) = iL xs ++ iL ys := by unfold iL; rw [List.map_append]
theorem atI_iL {xs : List Int} {j : Nat} (h : j < xs.length) : atI (iL xs) (j : Int) = some (.int (gI xs j)) := by
  refine atI_nat ?_
  unfold gI
  rw [iL_get, List.getElem?_eq_getElem h]
  simp [List.getD, List.getElem?_eq_getElem h]
theorem atI_nil {α : Type} {xs : List α} {j : Nat} (h : j < xs.length) : atI xs (j : Int) = some xs[j] := atI_nat (List.getElem?_eq_getElem h)
theorem few_of {n : Nat} (h : n ≤ 1000000) : few n = true := decide_eq_true h
theorem okR_of {i : Int} (h : -1000000 ≤ i) (h' : i ≤ 1000000) : okR i = true := decide_eq_true (by omega)
theorem rngL_lt {lo : Int} {n i : Nat} {d : D} (h : (rngL lo n)[i]? = some d) : i < n ∧ d = .int (lo + i) := rngL_get h
end DL
/-! DM: rows, frames, spans and tables, in plain numbers. -/
namespace DM
open PySem PySem.Spec L2 DL
/-! ### equality of data without bools -/
mutual
/-- no bool, no dict; texts that can be laid -/
def nob : D → Bool
  | .none | .int _ => true
  | .bool _ => false
  | .str x => PyData.canLay0 (.str x)
  | .list xs => nobA xs
  | .tuple xs => nobA xs
  | .dict _ => false
def nobA : List D → Bool
  | [] => true
  | x :: xs => nob x && nobA xs
end
mutual
theorem nob_lay : ∀ d : D, nob d = true → d.canLay0 = true
  | .none, _ => by simp [PyData.canLay0]
  | .int _, _ => by simp [PyData.canLay0]
  | .bool _, h => by simp [nob] at h
  | .str x, h => by rw [nob] at h; exact h
  | .list xs, h => by rw [nob] at h; rw [PyData.canLay0]; exact nobA_lay xs h
  | .tuple xs, h => by rw [nob] at h; rw [PyData.canLay0]; exact nobA_lay xs h
  | .dict _, h => by simp [nob] at h
theorem nobA_lay : ∀ ds : List D, nobA ds = true → PyData.canLayAll0 ds = true
  | [], _ => by simp [PyData.canLayAll0]
  | x :: xs, h => by
    rw [nobA, Bool.and_eq_true] at h
    rw [PyData.canLayAll0, nob_lay x h.1, nobA_lay xs h.2]
    rfl
end
mutual
theorem eqv_eq : ∀ d e : D, nob d = true → nob e = true → (PyData.eqv d e = true ↔ d = e)
  | .none, e, _, he => by cases e <;> simp [PyData.eqv, nob] at he ⊢
  | .int _, e, _, he => by cases e <;> simp [PyData.eqv, nob] at he ⊢
  | .bool _, e, h, _ => by simp [nob] at h
  | .str x, e, _, he => by cases e <;> simp [PyData.eqv, nob] at he ⊢
  | .list xs, e, h, he => by
    cases e with
    | list ys =>
      rw [nob] at h he
      rw [PyData.eqv, eqvA_eq xs ys h he]
      exact ⟨fun z => by rw [z], fun z => by cases z; rfl⟩
    | _ => simp [PyData.eqv, nob] at he ⊢
  | .tuple xs, e, h, he => by
    cases e with
    | tuple ys =>
      rw [nob] at h he
      rw [PyData.eqv, eqvA_eq xs ys h he]
      exact ⟨fun z => by rw [z], fun z => by cases z; rfl⟩
    | _ => simp [PyData.eqv, nob] at he ⊢
  | .dict _, e, h, _ => by simp [nob] at h
theorem eqvA_eq : ∀ xs ys : List D, nobA xs = true → nobA ys = true → (PyData.eqvAll xs ys = true ↔ xs = ys)
  | [], [], _, _ => by simp [PyData.eqvAll]
  | [], _ :: _, _, _ => by simp [PyData.eqvAll]
  | _ :: _, [], _, _ => by simp [PyData.eqvAll]
  | x :: xs, y :: ys, h, he => by
    rw [nobA, Bool.and_eq_true] at h he
    rw [PyData.eqvAll, Bool.and_eq_true, eqv_eq x y h.1 he.1, eqvA_eq xs ys h.2 he.2, List.cons.injEq]
end
theorem nobA_iff : ∀ {ds : List D}, nobA ds = true ↔ ∀ d ∈ ds, nob d = true
  | [] => by simp [nobA]
  | x :: xs => by rw [nobA, Bool.and_eq_true, nobA_iff (ds := xs)]; simp
theorem depthA_le : ∀ {ds : List D} {n : Nat}, (∀ d ∈ ds, d.depth ≤ n) → PyData.depthAll ds ≤ n
  | [], n, _ => by rw [PyData.depthAll]; exact Nat.zero_le _
  | x :: xs, n, h => by
    rw [PyData.depthAll]
    exact Nat.max_le.mpr ⟨h x List.mem_cons_self, depthA_le fun d hd => h d (List.mem_cons_of_mem _ hd)⟩
/-- plain: no bool, and not deep -/
def Pln (n : Nat) (d : D) : Prop := nob d = true ∧ d.depth ≤ n
theorem Pln.shaped {n : Nat} {d : D} (h : Pln n d) (hn : n ≤ 64) : SeqAt.shaped d = true := by
  unfold SeqAt.shaped
  rw [nob_lay d h.1, decide_eq_true (Nat.le_trans h.2 hn)]
  rfl
theorem Pln.list {n : Nat} {ds : List D} (h : ∀ d ∈ ds, Pln n d) : Pln (n + 1) (.list ds) := ⟨by rw [nob]; exact nobA_iff.mpr fun d hd => (h d hd).1, by rw [PyData.depth]; exact Nat.succ_le_succ (depthA_le fun d hd => (h d hd).2)⟩
theorem Pln.tuple {n : Nat} {ds : List D} (h : ∀ d ∈ ds, Pln n d) : Pln (n + 1) (.tuple ds) := ⟨by rw [nob]; exact nobA_iff.mpr fun d hd => (h d hd).1, by rw [PyData.depth]; exact Nat.succ_le_succ (depthA_le fun d hd => (h d hd).2)⟩
theorem pln_int {n : Nat} {i : Int} : Pln n (.int i) := ⟨by simp [nob], by simp [PyData.depth]⟩
theorem Pln.up {n m : Nat} {d : D} (h : Pln n d) (hm : n ≤ m) : Pln m d := ⟨h.1, Nat.le_trans h.2 hm⟩
theorem pln_iL {n : Nat} {xs : List Int} : ∀ d ∈ iL xs, Pln n d := fun d hd => by
  obtain ⟨i, _, rfl⟩ := List.mem_map.mp hd
  exact pln_int
theorem pln_tup {xs : List Int} : Pln 1 (.tuple (iL xs)) := .tuple pln_iL
theorem eqD_int {a b : Int} : eqD (.int a) (.int b) = some (.bool (decide (a = b))) := by
  unfold eqD
  rw [if_pos ⟨(pln_int (n := 0)).shaped (by decide), (pln_int (n := 0)).shaped (by decide)⟩]
  simp [PyData.eqv]
  rfl
theorem neD_int {a b : Int} : neD (.int a) (.int b) = some (.bool (!decide (a = b))) := by
  unfold neD
  rw [if_pos ⟨(pln_int (n := 0)).shaped (by decide), (pln_int (n := 0)).shaped (by decide)⟩]
  simp [PyData.eqv]
  rfl
theorem bool_eq {a b : Bool} {p : Prop} (h1 : a = true ↔ p) (h2 : b = true ↔ p) : a = b := by
  cases a <;> cases b <;> simp_all
theorem eqD_b {n : Nat} {d e : D} {b : Bool} (hd : Pln n d) (he : Pln n e) (hn : n ≤ 64) (hb : b = true ↔ d = e) : eqD d e = some (.bool b) := by
  unfold eqD
  rw [if_pos ⟨hd.shaped hn, he.shaped hn⟩, bool_eq (eqv_eq d e hd.1 he.1) hb]
theorem neD_b {n : Nat} {d e : D} {b : Bool} (hd : Pln n d) (he : Pln n e) (hn : n ≤ 64) (hb : b = true ↔ d = e) : neD d e = some (.bool (!b)) := by
  unfold neD
  rw [if_pos ⟨hd.shaped hn, he.shaped hn⟩, bool_eq (eqv_eq d e hd.1 he.1) hb]
end DM
/-! DM2: threads of places, spans, tables. -/
namespace DM
open PySem PySem.Spec L2 DL
/-- the rise of each place over its thread's first -/
def Rf (f : Nat) (c : Nat → Int) (p : Nat) : Int :=
  if h : p < f ∨ f = 0 then 0 else Rf f c (p - f) + c (p - f + 1) - c (p - f)
termination_by p
decreasing_by omega
theorem Rf_zero {f : Nat} {c : Nat → Int} {p : Nat} (h : p < f) : Rf f c p = 0 := by rw [Rf, dif_pos (.inl h)]
theorem Rf_step {f : Nat} {c : Nat → Int} {i : Nat} (hf : 1 ≤ f) : Rf f c (f + i) = Rf f c i + c (i + 1) - c i := by
  rw [Rf, dif_neg (by omega)]
  have e : f + i - f = i := by omega
  rw [e]
section
variable {f P t p : Nat} {c : Nat → Int} {cap : Int}
end
/-! ### tables -/
abbrev Tab := List (Int × Int)
def tlook (t : Tab) (k : Int) : Int := ((t.find? fun p => decide (p.1 = k)).map (·.2)).getD 0
def tput (t : Tab) (k v : Int) : Tab := if (t.any fun p => decide (p.1 = k)) = true then t.map (fun p => if p.1 = k then (p.1, v) else p) else t ++ [(k, v)]
/-- one number's row of a table -/
def trow (s m lo : Int) : Nat → Tab → Tab
  | 0, t => t
  | n + 1, t => let u := trow s m lo n t; tput u (s + (lo + n)) (tlook u (s + (lo + n)) + m)
/-- a table by one thread more -/
def tstep (lo : Int) (n : Nat) (t : Tab) : Tab := t.foldl (fun u p => trow p.1 p.2 lo n u) []
theorem sum_snoc {xs : List Int} {x : Int} : (xs ++ [x]).sum = xs.sum + x := by simp
end DM
/-! DM3: counts of rows, what rows a telling leaves, the least of them. -/
namespace DM
open PySem PySem.Spec L2 DL
def sumN : Nat → (Nat → Int) → Int
  | 0, _ => 0
  | n + 1, g => sumN n g + g n
theorem sumN_congr {g h : Nat → Int} : ∀ {n : Nat}, (∀ i, i < n → g i = h i) → sumN n g = sumN n h
  | 0, _ => rfl
  | n + 1, e => by
    show sumN n g + g n = sumN n h + h n
    rw [sumN_congr fun i hi => e i (by omega), e n (by omega)]
theorem sumN_le {g h : Nat → Int} : ∀ {n : Nat}, (∀ i, i < n → g i ≤ h i) → sumN n g ≤ sumN n h
  | 0, _ => Int.le_refl _
  | n + 1, e => by
    have h1 := sumN_le (n := n) fun i hi => e i (by omega)
    have h2 := e n (by omega)
    show sumN n g + g n ≤ sumN n h + h n
    omega
theorem sumN_const {k : Int} : ∀ {n : Nat}, sumN n (fun _ => k) = n * k
  | 0 => by show (0 : Int) = _; simp
  | n + 1 => by
    show sumN n (fun _ => k) + k = _
    rw [sumN_const, Int.natCast_add, Int.add_mul]
    simp
theorem sumN_shift {g : Nat → Int} : ∀ {n : Nat}, sumN n (fun j => g (1 + j)) = sumN n g + g n - g 0
  | 0 => by show (0 : Int) = 0 + g 0 - g 0; omega
  | n + 1 => by
    show sumN n (fun j => g (1 + j)) + g (1 + n) = sumN n g + g n + g (n + 1) - g 0
    rw [sumN_shift, Nat.add_comm 1 n]
    omega
theorem sumN_map {g : Nat → Int} : ∀ {n : Nat}, ((List.range n).map g).sum = sumN n g
  | 0 => rfl
  | n + 1 => by rw [List.range_succ, List.map_append, List.map_singleton, sum_snoc, sumN_map]; rfl
theorem sumN_split {g : Nat → Int} {t : Nat} : ∀ {n : Nat}, t ≤ n → sumN n g = sumN t g + sumN (n - t) (fun j => g (t + j))
  | 0, h => by
    obtain rfl : t = 0 := by omega
    rfl
  | n + 1, h => by
    by_cases e : t = n + 1
    · subst e
      rw [Nat.sub_self]
      show _ = _ + (0 : Int)
      omega
    · have e1 : n + 1 - t = (n - t) + 1 := by omega
      rw [e1]
      show sumN n g + g n = sumN t g + (sumN (n - t) (fun j => g (t + j)) + g (t + (n - t)))
      rw [sumN_split (t := t) (n := n) (by omega), show t + (n - t) = n by omega]
      omega
/-- the count at a stand -/
def cnt (f : Nat) (r : Nat → Int) (s : Nat) : Int := sumN f fun j => r (s + j)
theorem cnt_step {f s : Nat} {r : Nat → Int} : cnt f r (s + 1) = cnt f r s + r (s + f) - r s := by
  unfold cnt
  have := sumN_shift (g := fun j => r (s + j)) (n := f)
  rw [show (fun j => r (s + 1 + j)) = fun j => r (s + (1 + j)) by funext j; rw [Nat.add_assoc]]
  rw [this]
  rfl
def csL (f : Nat) (row : List Int) : List Int := (List.range (row.length - f + 1)).map (cnt f (gI row))
theorem csL_len {f : Nat} {row : List Int} : (csL f row).length = row.length - f + 1 := by unfold csL; simp
theorem csL_get {f s : Nat} {row : List Int} (h : s < row.length - f + 1) : gI (csL f row) s = cnt f (gI row) s := by
  unfold csL gI
  simp [List.getD, h]
/-! ### the least row -/
end DM
/-! DM4: how large the tables grow; bounds of rises; loops over a dict. -/
namespace DM
open PySem PySem.Spec L2 DL
theorem nodup_len : ∀ (n : Nat) (a : Int) (l : List Int), l.Nodup → (∀ x ∈ l, a ≤ x ∧ x < a + n) → l.length ≤ n
  | 0, a, [], _, _ => Nat.le_refl _
  | 0, a, x :: l, _, h => by
    have := h x List.mem_cons_self
    omega
  | n + 1, a, l, hn, h => by
    have h2 := nodup_len n a (l.erase (a + n)) (hn.erase _) fun x hx => by
      have h3 := (List.Nodup.mem_erase_iff hn).mp hx
      have h4 := h x h3.2
      have h5 := h3.1
      omega
    have h6 : l.length ≤ (l.erase (a + n)).length + 1 := by
      rw [List.length_erase]
      split <;> omega
    omega
def KIn (A B : Int) (t : Tab) : Prop := (t.map (·.1)).Nodup ∧ ∀ p ∈ t, A ≤ p.1 ∧ p.1 < B
theorem KIn.len {A B : Int} {t : Tab} (h : KIn A B t) : t.length ≤ (B - A).toNat := by
  have := nodup_len (B - A).toNat A (t.map (·.1)) h.1 fun x hx => by
    obtain ⟨p, hp, rfl⟩ := List.mem_map.mp hx
    have := h.2 p hp
    omega
  rwa [List.length_map] at this
theorem KIn.put {A B k v : Int} {t : Tab} (h : KIn A B t) (h1 : A ≤ k) (h2 : k < B) : KIn A B (tput t k v) := by
  unfold tput
  split
  · refine ⟨?_, fun p hp => ?_⟩
    · rw [List.map_map, List.map_congr_left (g := (·.1)) fun p _ => ?_]
      · exact h.1
      · show (if p.1 = k then (p.1, v) else p).1 = p.1
        split <;> rfl
    · obtain ⟨q, hq, rfl⟩ := List.mem_map.mp hp
      have := h.2 q hq
      split <;> exact this
  · rename_i hn
    refine ⟨?_, fun p hp => ?_⟩
    · rw [List.map_append, List.nodup_append]
      refine ⟨h.1, by simp, fun a ha b hb => ?_⟩
      have hb : b = k := by simpa using hb
      subst hb
      intro e
      subst e
      obtain ⟨p, hp, e⟩ := List.mem_map.mp ha
      exact hn (List.any_eq_true.mpr ⟨p, hp, decide_eq_true e⟩)
    · rcases List.mem_append.mp hp with z | z
      · exact h.2 p z
      · rw [List.mem_singleton.mp z]; exact ⟨h1, h2⟩
theorem KIn.row {A B s m lo : Int} : ∀ {n : Nat} {t : Tab}, KIn A B t → A ≤ s + lo → s + lo + n ≤ B → KIn A B (trow s m lo n t)
  | 0, t, h, _, _ => h
  | n + 1, t, h, h1, h2 => (KIn.row (n := n) h h1 (by omega)).put (by omega) (by omega)
theorem KIn.fold {A B A' B' lo : Int} {n : Nat} : ∀ {t : Tab} {u : Tab}, (∀ p ∈ t, A ≤ p.1 ∧ p.1 < B) → A' ≤ A + lo → B + lo + n ≤ B' → KIn A' B' u → KIn A' B' (t.foldl (fun u p => trow p.1 p.2 lo n u) u)
  | [], u, _, _, _, h => h
  | p :: t, u, hp, h1, h2, h => by
    have := hp p List.mem_cons_self
    exact KIn.fold (t := t) (fun q hq => hp q (List.mem_cons_of_mem _ hq)) h1 h2 (h.row (by omega) (by omega))
theorem KIn.nil {A B : Int} : KIn A B [] := ⟨by simp, fun p hp => by cases hp⟩
theorem KIn.step {A B lo : Int} {n : Nat} {t : Tab} (h : KIn A B t) : KIn (A + lo) (B + lo + n) (tstep lo n t) := KIn.fold h.2 (Int.le_refl _) (Int.le_refl _) .nil
def CB (cs : List Int) : Prop := ∀ x ∈ cs, 0 ≤ x ∧ x ≤ 1000
theorem CB.get {cs : List Int} (h : CB cs) (i : Nat) : 0 ≤ gI cs i ∧ gI cs i ≤ 1000 := by
  unfold gI
  rw [List.getD]
  cases q : cs[i]? with
  | none => exact ⟨by decide, by decide⟩
  | some x => exact h x (List.mem_of_getElem? q)
/-! ### loops over a dict -/
section
variable {ρ ρ' : Rho} {c : Dr}
end
theorem take_succ_get {α : Type} {xs : List α} {j : Nat} {x : α} (h : xs[j]? = some x) : xs.take (j + 1) = xs.take j ++ [x] := by
  obtain ⟨h1, h2⟩ := List.getElem?_eq_some_iff.mp h
  rw [List.take_succ, h]
  rfl
end DM
/-! DM5: all lots, how many are right, the first of them. -/
namespace DM
open PySem PySem.Spec L2 DL
/-! order -/
/-! counting -/
theorem sumN_add {g h : Nat → Int} : ∀ {n : Nat}, sumN n (fun j => g j + h j) = sumN n g + sumN n h
  | 0 => rfl
  | n + 1 => by
    show sumN n (fun j => g j + h j) + (g n + h n) = sumN n g + g n + (sumN n h + h n)
    rw [sumN_add]
    omega
end DM
/-! DM6: the rows that a telling leaves, from either end and by what is missing. -/
namespace DM
open PySem PySem.Spec L2 DL
theorem gI_ext {xs ys : List Int} (hl : xs.length = ys.length) (h : ∀ i, i < xs.length → gI xs i = gI ys i) : xs = ys := by
  apply List.ext_getElem hl
  intro i h1 h2
  have := h i h1
  unfold gI at this
  simpa [List.getD, h1, h2] using this
theorem sum_gI : ∀ {n : Nat} {xs : List Int}, xs.length = n → xs.sum = sumN n (gI xs)
  | n, xs, h => by
    have : xs = (List.range n).map (gI xs) := gI_ext (by simp [h]) fun i hi => by
      rw [h] at hi
      conv => rhs; unfold gI
      simp [List.getD, hi]
      rfl
    conv => lhs; rw [this]
    exact sumN_map
/-- a row that may be -/
def IsRow (P cap f : Nat) (cs r : List Int) : Prop := r.length = P ∧ (∀ x ∈ r, 0 ≤ x ∧ x ≤ (cap : Int)) ∧ csL f r = cs
section
variable {P cap f : Nat} {cs : List Int}
end
theorem len_inj {α β : Type} [BEq β] [LawfulBEq β] {g : α → β} : ∀ {l : List α} {m : List β}, l.Nodup → (∀ x ∈ l, g x ∈ m) → (∀ x ∈ l, ∀ y ∈ l, g x = g y → x = y) → l.length ≤ m.length
  | [], m, _, _, _ => Nat.zero_le _
  | x :: l, m, hn, hm, hi => by
    rw [List.nodup_cons] at hn
    have hx := hm x List.mem_cons_self
    have ih := len_inj (g := g) (l := l) (m := m.erase (g x)) hn.2 (fun y hy => by
      have hy' := hm y (List.mem_cons_of_mem _ hy)
      exact (List.mem_erase_of_ne fun e => hn.1 (by rw [← hi y (List.mem_cons_of_mem _ hy) x List.mem_cons_self e]; exact hy)).mpr hy') fun y hy z hz e => hi y (List.mem_cons_of_mem _ hy) z (List.mem_cons_of_mem _ hz) e
    rw [List.length_erase, if_pos hx] at ih
    have := List.length_pos_of_mem hx
    rw [List.length_cons]
    omega
theorem sumN_front {h : Nat → Int} {n : Nat} : sumN (n + 1) h = h 0 + sumN n fun j => h (1 + j) := by
  rw [sumN_split (g := h) (t := 1) (n := n + 1) (by omega), Nat.add_sub_cancel]
  show 0 + h 0 + _ = _
  omega
theorem gI_map {xs : List Int} {g : Int → Int} {i : Nat} (h : i < xs.length) : gI (xs.map g) i = g (gI xs i) := by
  unfold gI
  simp [List.getD, h]
end DM
/-! DM7: ways by lists from either end. -/
namespace DM
open PySem PySem.Spec L2 DL
/-! the order does not matter -/
end DM
/-! DM8: things: no dicts, short, not deep. -/
namespace DM
open PySem PySem.Spec L2 DL
/-- short, plain signs alone -/
def txtOk (n : Nat) (x : Str) : Bool := decide (x.length ≤ n) && x.cps.toList.all (· < 128)
mutual
def gd (n : Nat) : D → Bool
  | .none | .bool _ | .int _ => true
  | .str x => txtOk n x
  | .list xs => decide (xs.length ≤ n) && gdA n xs
  | .tuple xs => decide (xs.length ≤ n) && gdA n xs
  | .dict _ => false
def gdA (n : Nat) : List D → Bool
  | [] => true
  | x :: xs => gd n x && gdA n xs
end
theorem gdA_iff {n : Nat} : ∀ {xs : List D}, gdA n xs = true ↔ ∀ x ∈ xs, gd n x = true
  | [] => by simp [gdA]
  | x :: xs => by rw [gdA, Bool.and_eq_true, gdA_iff (xs := xs)]; simp
theorem txtOk_up {n m : Nat} {x : Str} (h : txtOk n x = true) (hm : n ≤ m) : txtOk m x = true := by
  unfold txtOk at h ⊢
  rw [Bool.and_eq_true, decide_eq_true_eq] at h ⊢
  exact ⟨Nat.le_trans h.1 hm, h.2⟩
mutual
theorem gd_up {n m : Nat} (hm : n ≤ m) : ∀ d : D, gd n d = true → gd m d = true
  | .none, _ => by simp [gd]
  | .bool _, _ => by simp [gd]
  | .int _, _ => by simp [gd]
  | .str x, h => by rw [gd] at h ⊢; exact txtOk_up h hm
  | .list xs, h => by
    rw [gd, Bool.and_eq_true, decide_eq_true_eq] at h ⊢
    exact ⟨Nat.le_trans h.1 hm, gdA_up hm xs h.2⟩
  | .tuple xs, h => by
    rw [gd, Bool.and_eq_true, decide_eq_true_eq] at h ⊢
    exact ⟨Nat.le_trans h.1 hm, gdA_up hm xs h.2⟩
  | .dict _, h => by simp [gd] at h
theorem gdA_up {n m : Nat} (hm : n ≤ m) : ∀ xs : List D, gdA n xs = true → gdA m xs = true
  | [], _ => by simp [gdA]
  | x :: xs, h => by
    rw [gdA, Bool.and_eq_true] at h ⊢
    exact ⟨gd_up hm x h.1, gdA_up hm xs h.2⟩
end
mutual
theorem gd_lay {n : Nat} : ∀ d : D, gd n d = true → d.canLay0 = true
  | .none, _ => by simp [PyData.canLay0]
  | .bool _, _ => by simp [PyData.canLay0]
  | .int _, _ => by simp [PyData.canLay0]
  | .str x, h => by
    rw [gd] at h
    unfold txtOk at h
    rw [Bool.and_eq_true] at h
    rw [PyData.canLay0]
    have h2 := h.2
    show x.cps.all (· < 0x110000) = true
    rw [← Array.all_toList]
    rw [List.all_eq_true] at h2 ⊢
    intro c hc
    have := h2 c hc
    simp at this ⊢
    omega
  | .list xs, h => by
    rw [gd, Bool.and_eq_true] at h
    rw [PyData.canLay0]; exact gdA_lay xs h.2
  | .tuple xs, h => by
    rw [gd, Bool.and_eq_true] at h
    rw [PyData.canLay0]; exact gdA_lay xs h.2
  | .dict _, h => by simp [gd] at h
theorem gdA_lay {n : Nat} : ∀ xs : List D, gdA n xs = true → PyData.canLayAll0 xs = true
  | [], _ => by simp [PyData.canLayAll0]
  | x :: xs, h => by
    rw [gdA, Bool.and_eq_true] at h
    rw [PyData.canLayAll0, gd_lay x h.1, gdA_lay xs h.2]; rfl
end
/-- short, and not deep -/
def Gd (n k : Nat) (d : D) : Prop := gd n d = true ∧ d.depth ≤ k
theorem Gd.up {n m k l : Nat} {d : D} (h : Gd n k d) (h1 : n ≤ m) (h2 : k ≤ l) : Gd m l d := ⟨gd_up h1 d h.1, Nat.le_trans h.2 h2⟩
theorem Gd.shaped {n k : Nat} {d : D} (h : Gd n k d) (hk : k ≤ 64) : SeqAt.shaped d = true := by
  unfold SeqAt.shaped
  rw [gd_lay d h.1, decide_eq_true (Nat.le_trans h.2 hk)]; rfl
theorem depthA_mem : ∀ {ds : List D} {n : Nat}, PyData.depthAll ds ≤ n → ∀ d ∈ ds, d.depth ≤ n
  | [], _, _, d, hd => by cases hd
  | x :: xs, n, h, d, hd => by
    rw [PyData.depthAll] at h
    obtain ⟨h1, h2⟩ := Nat.max_le.mp h
    rcases List.mem_cons.mp hd with e | e
    · rw [e]; exact h1
    · exact depthA_mem h2 d e
theorem Gd.ofList {n k : Nat} {ds : List D} (h : Gd n k (.list ds)) : ds.length ≤ n ∧ ∃ j, k = j + 1 ∧ ∀ d ∈ ds, Gd n j d := by
  obtain ⟨h1, h2⟩ := h
  rw [gd, Bool.and_eq_true, decide_eq_true_eq] at h1
  rw [PyData.depth] at h2
  cases k with
  | zero => omega
  | succ j => exact ⟨h1.1, j, rfl, fun d hd => ⟨gdA_iff.mp h1.2 d hd, depthA_mem (by omega) d hd⟩⟩
theorem Gd.ofTuple {n k : Nat} {ds : List D} (h : Gd n k (.tuple ds)) : ds.length ≤ n ∧ ∃ j, k = j + 1 ∧ ∀ d ∈ ds, Gd n j d := by
  obtain ⟨h1, h2⟩ := h
  rw [gd, Bool.and_eq_true, decide_eq_true_eq] at h1
  rw [PyData.depth] at h2
  cases k with
  | zero => omega
  | succ j => exact ⟨h1.1, j, rfl, fun d hd => ⟨gdA_iff.mp h1.2 d hd, depthA_mem (by omega) d hd⟩⟩
theorem Gd.len {n k : Nat} {d : D} {ds : List D} (h : Gd n k d) (e : d = .list ds ∨ d = .tuple ds) : ds.length ≤ n := by
  rcases e with e | e
  · subst e; exact h.ofList.1
  · subst e; exact h.ofTuple.1
/-! texts -/
end DM
/-! DM9: places that are alike by several periods. -/
namespace DM
open PySem PySem.Spec L2 DL
/-- alike so many places apart, below P -/
def Per (P f : Nat) (z : Nat → Int) : Prop := ∀ s, s + f < P → z s = z (s + f)
theorem Per.mod {P f : Nat} {z : Nat → Int} (hf : 1 ≤ f) (h : Per P f z) : ∀ p, p < P → z p = z (p % f)
  | p, hp => by
    by_cases q : p < f
    · rw [Nat.mod_eq_of_lt q]
    · have e := h (p - f) (by omega)
      rw [show p - f + f = p by omega] at e
      rw [← e, Per.mod hf h (p - f) (by omega), Nat.mod_eq_sub_mod (a := p) (by omega)]
termination_by p => p
theorem per_two {z : Nat → Int} : ∀ (n a b P : Nat), a + b ≤ n → 1 ≤ a → 1 ≤ b → a + b ≤ P + Nat.gcd a b → Per P a z → Per P b z → ∀ p, p < P → z p = z (p % Nat.gcd a b)
  | 0, a, b, P, hn, h1, h2, _, _, _ => by omega
  | n + 1, a, b, P, hn, h1, h2, hP, pa, pb => by
    rcases Nat.lt_trichotomy a b with h | h | h
    · have eg : Nat.gcd a (b - a) = Nat.gcd a b := Nat.gcd_sub_self_right (by omega)
      have gd := Nat.gcd_dvd_left a b
      have g1 : Nat.gcd a b ≤ b - a := Nat.le_of_dvd (by omega) (Nat.dvd_sub (Nat.gcd_dvd_right a b) (Nat.gcd_dvd_left a b))
      have ih := per_two (z := z) n a (b - a) (P - a) (by omega) h1 (by omega) (by rw [eg]; omega) (fun s hs => pa s (by omega)) (fun s hs => by
        have e1 := pb s (by omega)
        have e2 := pa (s + (b - a)) (by omega)
        rw [show s + (b - a) + a = s + b by omega] at e2
        rw [e1, e2])
      rw [eg] at ih
      intro p hp
      by_cases q : p < P - a
      · exact ih p q
      · have e := pa (p - a) (by omega)
        rw [show p - a + a = p by omega] at e
        rw [← e, ih (p - a) (by omega)]
        congr 1
        obtain ⟨k, hk⟩ := gd
        generalize Nat.gcd a b = g at *
        have : p = (p - a) + g * k := by omega
        conv => rhs; rw [this]
        rw [Nat.add_mul_mod_self_left]
    · subst h
      rw [Nat.gcd_self]
      exact pa.mod h1
    · have eg : Nat.gcd b (a - b) = Nat.gcd a b := by rw [Nat.gcd_sub_self_right (by omega), Nat.gcd_comm]
      have gd := Nat.gcd_dvd_right a b
      have g1 : Nat.gcd a b ≤ a - b := Nat.le_of_dvd (by omega) (Nat.dvd_sub (Nat.gcd_dvd_left a b) (Nat.gcd_dvd_right a b))
      have ih := per_two (z := z) n b (a - b) (P - b) (by omega) h2 (by omega) (by rw [eg]; omega) (fun s hs => pb s (by omega)) (fun s hs => by
        have e1 := pa s (by omega)
        have e2 := pb (s + (a - b)) (by omega)
        rw [show s + (a - b) + b = s + a by omega] at e2
        rw [e1, e2])
      rw [eg] at ih
      intro p hp
      by_cases q : p < P - b
      · exact ih p q
      · have e := pb (p - b) (by omega)
        rw [show p - b + b = p by omega] at e
        rw [← e, ih (p - b) (by omega)]
        congr 1
        obtain ⟨k, hk⟩ := gd
        generalize Nat.gcd a b = g at *
        have : p = (p - b) + g * k := by omega
        conv => rhs; rw [this]
        rw [Nat.add_mul_mod_self_left]
/-- the common divisor of lengths -/
def gcdL (fs : List Nat) : Nat := fs.foldl Nat.gcd 0
/-- lengths that rise, long enough -/
def LongL (P : Nat) : List Nat → Prop
  | [a] => 1 ≤ a ∧ a ≤ P
  | [a, b] => 1 ≤ a ∧ a < b ∧ b ≤ P ∧ a + b ≤ P + Nat.gcd a b
  | [a, b, c] => 1 ≤ a ∧ a < b ∧ b < c ∧ c ≤ P ∧ b + c ≤ P + Nat.gcd b c
  | _ => False
theorem per_all {P : Nat} {z : Nat → Int} {fs : List Nat} (hL : LongL P fs) (h : ∀ f ∈ fs, Per P f z) : ∀ p, p < P → z p = z (p % gcdL fs) := by
  match fs, hL with
  | [a], hL =>
    have : gcdL [a] = a := by simp [gcdL]
    rw [this]
    exact (h a (by simp)).mod hL.1
  | [a, b], ⟨h1, h2, h3, h4⟩ =>
    have : gcdL [a, b] = Nat.gcd a b := by simp [gcdL]
    rw [this]
    exact per_two (a + b) a b P (Nat.le_refl _) h1 (by omega) h4 (h a (by simp)) (h b (by simp))
  | [a, b, c], ⟨h1, h2, h3, h4, h5⟩ =>
    have e : gcdL [a, b, c] = Nat.gcd a (Nat.gcd b c) := by simp [gcdL, Nat.gcd_assoc]
    rw [e]
    have p2 := per_two (b + c) b c P (Nat.le_refl _) (by omega) (by omega) h5 (h b (by simp)) (h c (by simp))
    have g1 : Nat.gcd b c ≤ b := Nat.le_of_dvd (by omega) (Nat.gcd_dvd_left b c)
    have g2 : Nat.gcd b c ≤ c - b := Nat.le_of_dvd (by omega) (Nat.dvd_sub (Nat.gcd_dvd_right b c) (Nat.gcd_dvd_left b c))
    have g0 : 1 ≤ Nat.gcd b c := Nat.gcd_pos_of_pos_left _ (by omega)
    refine per_two (a + Nat.gcd b c) a (Nat.gcd b c) P (Nat.le_refl _) h1 g0 (by omega) (h a (by simp)) fun s hs => ?_
    rw [p2 s (by omega), p2 (s + Nat.gcd b c) hs, Nat.add_mod_right]
theorem gcdL_dvd {fs : List Nat} {f : Nat} (h : f ∈ fs) : gcdL fs ∣ f := by
  have go : ∀ (fs : List Nat) (a : Nat), fs.foldl Nat.gcd a ∣ a ∧ ∀ f ∈ fs, fs.foldl Nat.gcd a ∣ f := by
    intro fs
    induction fs with
    | nil => intro a; exact ⟨Nat.dvd_refl _, fun f hf => by cases hf⟩
    | cons x fs ih =>
      intro a
      obtain ⟨i1, i2⟩ := ih (Nat.gcd a x)
      refine ⟨Nat.dvd_trans i1 (Nat.gcd_dvd_left _ _), fun f hf => ?_⟩
      rcases List.mem_cons.mp hf with e | e
      · rw [e]; exact Nat.dvd_trans i1 (Nat.gcd_dvd_right _ _)
      · exact i2 f e
  exact (go fs 0).2 f h
theorem bez (m n : Nat) : ∃ u v : Int, ((Nat.gcd m n : Nat) : Int) = m * u + n * v := by
  refine Nat.gcd.induction (P := fun m n => ∃ u v : Int, ((Nat.gcd m n : Nat) : Int) = m * u + n * v) m n (fun n => ⟨0, 1, by rw [Nat.gcd_zero_left]; omega⟩) fun m n hm ih => ?_
  obtain ⟨u, v, e⟩ := ih
  refine ⟨v - (n / m : Nat) * u, u, ?_⟩
  rw [Nat.gcd_rec, e]
  have h : ((n % m : Nat) : Int) = n - m * (n / m : Nat) := by
    have := Nat.div_add_mod n m
    have e2 : ((m * (n / m) + n % m : Nat) : Int) = n := by rw [this]
    rw [Int.natCast_add, Int.natCast_mul] at e2
    omega
  rw [h, Int.sub_mul, Int.mul_sub, ← Int.mul_assoc]
  omega
/-- the common divisor is a sum of so many times the lengths -/
theorem gcdL_sum : ∀ fs : List Nat, ∃ u : Nat → Int, (gcdL fs : Int) = sumN fs.length fun i => u i * (fs.getD i 0 : Nat) := by
  have go : ∀ (fs : List Nat) (a : Nat), ∃ (k : Int) (u : Nat → Int), ((fs.foldl Nat.gcd a : Nat) : Int) = k * a + sumN fs.length fun i => u i * (fs.getD i 0 : Nat) := by
    intro fs
    induction fs with
    | nil => intro a; exact ⟨1, fun _ => 0, by show (a : Int) = 1 * a + 0; omega⟩
    | cons x fs ih =>
      intro a
      obtain ⟨k, u, e⟩ := ih (Nat.gcd a x)
      obtain ⟨v, w, e2⟩ := bez a x
      refine ⟨k * v, fun i => if i = 0 then k * w else u (i - 1), ?_⟩
      show ((fs.foldl Nat.gcd (Nat.gcd a x) : Nat) : Int) = _
      rw [e, e2, List.length_cons, sumN_front]
      have : (sumN fs.length fun i => u i * (fs.getD i 0 : Nat)) = sumN fs.length fun j => (if 1 + j = 0 then k * w else u (1 + j - 1)) * ((x :: fs).getD (1 + j) 0 : Nat) := sumN_congr fun i _ => by
        rw [if_neg (by omega), show 1 + i - 1 = i by omega, Nat.add_comm 1 i]; rfl
      rw [← this]
      show k * (a * v + x * w) + _ = k * v * a + (k * w * (x : Nat) + _)
      rw [Int.mul_add, ← Int.mul_assoc, ← Int.mul_assoc, Int.mul_right_comm k a v, Int.mul_right_comm k x w, Int.add_assoc]
  intro fs
  obtain ⟨k, u, e⟩ := go fs 0
  exact ⟨u, by unfold gcdL; rw [e]; simp⟩
end DM
/-! DM10: several frames as one. -/
namespace DM
open PySem PySem.Spec L2 DL
theorem win_one {f : Nat → Int} {g : Nat} (hg : 1 ≤ g) : ∀ s, sumN g (fun j => f ((s + j) % g)) = sumN g f
  | 0 => sumN_congr fun j hj => by rw [Nat.zero_add, Nat.mod_eq_of_lt hj]
  | s + 1 => by
    have ih := win_one (f := f) hg s
    have h1 := sumN_front (h := fun j => f ((s + j) % g)) (n := g)
    have h2 : sumN (g + 1) (fun j => f ((s + j) % g)) = sumN g (fun j => f ((s + j) % g)) + f ((s + g) % g) := rfl
    rw [Nat.add_mod_right] at h2
    have h3 : (fun j => f ((s + (1 + j)) % g)) = fun j => f ((s + 1 + j) % g) := by funext j; rw [Nat.add_assoc]
    rw [h3] at h1
    have h4 : f ((s + 0) % g) = f (s % g) := by rw [Nat.add_zero]
    omega
theorem win_per {f : Nat → Int} {g : Nat} (hg : 1 ≤ g) : ∀ a s : Nat, sumN (a * g) (fun j => f ((s + j) % g)) = a * sumN g f
  | 0, s => by rw [Nat.zero_mul]; show (0 : Int) = 0 * _; omega
  | a + 1, s => by
    rw [sumN_split (t := a * g) (by rw [Nat.add_mul]; omega), win_per hg a s]
    have e : (a + 1) * g - a * g = g := by rw [Nat.add_mul, Nat.one_mul]; omega
    have h3 : (fun j => f ((s + (a * g + j)) % g)) = fun j => f ((s + a * g + j) % g) := by funext j; rw [Nat.add_assoc]
    rw [e, h3, win_one hg]
    rw [show ((a + 1 : Nat) : Int) = (a : Int) + 1 by omega, Int.add_mul]
    omega
abbrev TFs := List (Nat × List Int)
/-- a row, d times as great, lets the told counts be -/
def Sol (P : Nat) (ts : TFs) (d : Int) (y : Nat → Int) : Prop := ∀ t ∈ ts, ∀ s, s + t.1 ≤ P → cnt t.1 y s = d * gI t.2 s
/-- what the ties tell -/
structure Pot (P : Nat) (ts : TFs) (L : Nat → Int) : Prop where
  edge : ∀ t ∈ ts, ∀ s, s + t.1 < P → L (s + t.1) - L s = gI t.2 (s + 1) - gI t.2 s
  zero : ∀ r, r < gcdL (ts.map (·.1)) → L r = 0
def oneW (t : Nat × List Int) (L : Nat → Int) : Int := gI t.2 0 - sumN t.1 L
section
variable {P : Nat} {ts : TFs} {L y : Nat → Int} {d : Int}
theorem sol_edge (h : Sol P ts d y) {t : Nat × List Int} (ht : t ∈ ts) {s : Nat} (hs : s + t.1 < P) : y (s + t.1) - y s = d * (gI t.2 (s + 1) - gI t.2 s) := by
  have h1 := h t ht s (by omega)
  have h2 := h t ht (s + 1) (by omega)
  rw [cnt_step] at h2
  rw [Int.mul_sub]
  omega
theorem long_mem {fs : List Nat} (h : LongL P fs) : ∀ f ∈ fs, 1 ≤ f ∧ f ≤ P := by
  match fs, h with
  | [a], h => intro f hf; rw [List.mem_singleton] at hf; subst hf; exact h
  | [a, b], ⟨h1, h2, h3, h4⟩ =>
    intro f hf
    simp only [List.mem_cons, List.not_mem_nil, or_false] at hf
    rcases hf with rfl | rfl <;> omega
  | [a, b, c], ⟨h1, h2, h3, h4, h5⟩ =>
    intro f hf
    simp only [List.mem_cons, List.not_mem_nil, or_false] at hf
    rcases hf with rfl | rfl | rfl <;> omega
theorem long_ne {fs : List Nat} (h : LongL P fs) : fs ≠ [] := fun e => by subst e; exact h
theorem gcdL_pos {fs : List Nat} (h : LongL P fs) : 1 ≤ gcdL fs := by
  obtain ⟨f, hf⟩ := List.exists_mem_of_ne_nil _ (long_ne h)
  have := long_mem h f hf
  exact Nat.pos_of_dvd_of_pos (gcdL_dvd hf) (by omega)
theorem mem_fs {t : Nat × List Int} (ht : t ∈ ts) : t.1 ∈ ts.map (·.1) := List.mem_map_of_mem ht
/-- d times what is left of the first count is a part of the row's first places -/
theorem sol_first (hL : LongL P (ts.map (·.1))) (hp : Pot P ts L) (hs : Sol P ts d y) {t : Nat × List Int} (ht : t ∈ ts) : d * oneW t L = (t.1 / gcdL (ts.map (·.1)) : Nat) * sumN (gcdL (ts.map (·.1))) y := by
  have hz : ∀ p, p < P → y p - d * L p = y (p % gcdL (ts.map (·.1))) - d * L (p % gcdL (ts.map (·.1))) := per_all (z := fun p => y p - d * L p) hL fun f hf s hs' => by
    obtain ⟨u, hu, rfl⟩ := List.mem_map.mp hf
    have e1 := sol_edge hs hu hs'
    have e2 := hp.edge u hu s hs'
    show y s - d * L s = y (s + u.1) - d * L (s + u.1)
    have e3 : d * (L (s + u.1) - L s) = d * (gI u.2 (s + 1) - gI u.2 s) := by rw [e2]
    rw [Int.mul_sub] at e3
    omega
  have hg := gcdL_pos hL
  have hdv := gcdL_dvd (mem_fs ht)
  have hzero := hp.zero
  have htP := (long_mem hL t.1 (mem_fs ht)).2
  generalize gcdL (ts.map (·.1)) = g at *
  have e0 := hs t ht 0 (by omega)
  have e1 : sumN t.1 (fun p => y p - d * L p) = d * oneW t L := by
    unfold oneW
    rw [Int.mul_sub, ← e0]
    have : ∀ n, sumN n (fun p => y p - d * L p) = sumN n y - d * sumN n L := by
      intro n
      induction n with
      | zero => show (0 : Int) = 0 - d * 0; omega
      | succ n ih =>
        show sumN n (fun p => y p - d * L p) + (y n - d * L n) = sumN n y + y n - d * (sumN n L + L n)
        rw [ih, Int.mul_add]; omega
    rw [this]
    unfold cnt
    have : (fun j => y (0 + j)) = y := by funext j; rw [Nat.zero_add]
    rw [this]
  rw [← e1]
  have e2 : sumN t.1 (fun p => y p - d * L p) = sumN (t.1 / g * g) (fun j => (fun r => y r - d * L r) ((0 + j) % g)) := by
    rw [Nat.div_mul_cancel hdv]
    exact sumN_congr fun j hj => by rw [Nat.zero_add]; exact hz j (by omega)
  rw [e2]
  refine (win_per (f := fun r => y r - d * L r) hg (t.1 / g) 0).trans ?_
  congr 1
  exact sumN_congr fun r hr => by rw [hzero r hr]; omega
theorem sumN_mul {k : Int} {g : Nat → Int} : ∀ {n : Nat}, sumN n (fun j => k * g j) = k * sumN n g
  | 0 => by show (0 : Int) = k * 0; omega
  | n + 1 => by
    show sumN n (fun j => k * g j) + k * g n = k * (sumN n g + g n)
    rw [sumN_mul, Int.mul_add]
/-- what is left of the first counts goes by the lengths -/
theorem sol_one (hL : LongL P (ts.map (·.1))) (hp : Pot P ts L) (hd : d ≠ 0) (hs : Sol P ts d y) : ∃ x : Int, (∀ t ∈ ts, oneW t L = x * (t.1 / gcdL (ts.map (·.1)) : Nat)) ∧ d * x = sumN (gcdL (ts.map (·.1))) y := by
  have hg := gcdL_pos hL
  obtain ⟨u, hu⟩ := gcdL_sum (ts.map (·.1))
  have key := fun t ht => sol_first hL hp hs (t := t) ht
  have hdv : ∀ t ∈ ts, gcdL (ts.map (·.1)) ∣ t.1 := fun t ht => gcdL_dvd (mem_fs ht)
  generalize gcdL (ts.map (·.1)) = g at *
  generalize hX : sumN g y = X at key
  have hlen : (ts.map (·.1)).length = ts.length := List.length_map _
  rw [hlen] at hu
  have hget : ∀ i, i < ts.length → ∃ t ∈ ts, ts[i]? = some t ∧ (ts.map (·.1)).getD i 0 = t.1 := fun i hi => by
    refine ⟨ts[i], List.getElem_mem hi, List.getElem?_eq_getElem hi, ?_⟩
    simp [List.getD, hi]
  -- one is the sum of so many times the parts
  have h1 : (1 : Int) = sumN ts.length fun i => u i * ((ts.map (·.1)).getD i 0 / g : Nat) := by
    have e : (sumN ts.length fun i => u i * ((ts.map (·.1)).getD i 0 : Nat)) = (g : Int) * sumN ts.length fun i => u i * ((ts.map (·.1)).getD i 0 / g : Nat) := by
      rw [← sumN_mul]
      refine sumN_congr fun i hi => ?_
      obtain ⟨t, ht, _, e⟩ := hget i hi
      rw [e, Int.mul_left_comm]
      congr 1
      have := Nat.mul_div_cancel' (hdv t ht)
      have e2 : ((g * (t.1 / g) : Nat) : Int) = t.1 := by rw [this]
      rw [Int.natCast_mul] at e2
      exact e2.symm
    rw [e] at hu
    have : (g : Int) * 1 = g * sumN ts.length fun i => u i * ((ts.map (·.1)).getD i 0 / g : Nat) := by rw [Int.mul_one]; exact hu
    exact Int.eq_of_mul_eq_mul_left (by omega) this
  have hx : d * (sumN ts.length fun i => u i * oneW (ts.getD i (0, [])) L) = X := by
    rw [← sumN_mul]
    have : X = sumN ts.length fun i => X * (u i * ((ts.map (·.1)).getD i 0 / g : Nat)) := by rw [sumN_mul, ← h1, Int.mul_one]
    conv => rhs; rw [this]
    refine sumN_congr fun i hi => ?_
    obtain ⟨t, ht, eg, e⟩ := hget i hi
    have et : ts.getD i (0, []) = t := by rw [List.getD_eq_getElem?_getD, eg]; rfl
    rw [et, e, Int.mul_left_comm, key t ht, Int.mul_left_comm X, Int.mul_comm X]
  refine ⟨_, fun t ht => ?_, hx⟩
  have e := key t ht
  rw [← hx, Int.mul_left_comm] at e
  have := Int.eq_of_mul_eq_mul_left hd e
  rw [this, Int.mul_comm]
/-- a row of whole numbers out of the ties -/
def oneRow (g : Nat) (x : Int) (L : Nat → Int) (p : Nat) : Int := L p + if p % g = 0 then x else 0
theorem sumN_if0 {x : Int} {g : Nat} (hg : 1 ≤ g) : sumN g (fun r => if r = 0 then x else 0) = x := by
  obtain ⟨m, rfl⟩ : ∃ m, g = m + 1 := ⟨g - 1, by omega⟩
  rw [sumN_front, if_pos rfl]
  have : sumN m (fun j => if 1 + j = 0 then x else 0) = sumN m fun _ => 0 := sumN_congr fun j _ => by rw [if_neg (by omega)]
  rw [this, sumN_const]; omega
theorem one_sol (hL : LongL P (ts.map (·.1))) (hp : Pot P ts L) {x : Int} (hx : ∀ t ∈ ts, oneW t L = x * (t.1 / gcdL (ts.map (·.1)) : Nat)) : Sol P ts 1 (oneRow (gcdL (ts.map (·.1))) x L) := by
  intro t ht
  have hg := gcdL_pos hL
  have hdv := gcdL_dvd (mem_fs ht)
  have hw := hx t ht
  generalize gcdL (ts.map (·.1)) = g at *
  have e1 : ∀ s, cnt t.1 (oneRow g x L) s = sumN t.1 (fun j => L (s + j)) + (t.1 / g : Nat) * x := fun s => by
    have := win_per (f := fun r => if r = 0 then x else 0) hg (t.1 / g) s
    rw [Nat.div_mul_cancel hdv, sumN_if0 hg] at this
    rw [← this, ← sumN_add]
    rfl
  intro s
  induction s with
  | zero =>
    intro _
    have e2 : (fun j => L (0 + j)) = L := by funext j; rw [Nat.zero_add]
    rw [e1, e2, Int.one_mul]
    unfold oneW at hw
    rw [Int.mul_comm] at hw
    omega
  | succ s ih =>
    intro hs
    have h0 := ih (by omega)
    have e := hp.edge t ht s (by omega)
    have e2 := e1 s
    have e3 := e1 (s + 1)
    have e4 := cnt_step (f := t.1) (s := s) (r := L)
    unfold cnt at e4
    rw [Int.one_mul] at h0 ⊢
    omega
end
end DM
namespace X
open PySem PySem.Spec L2 DL
def topS (i : Nat) : Stmt := PySem.Challenge.pw_framecount_k21_whole_several_frames_as_o.main.body.getD i (.Pass ⟨0, 0, 0, 0⟩)
abbrev s_is_between : Stmt := topS 13
abbrev N_is_between : List Str := ["thing", "low", "high"]
theorem sc_is_between : FnScope N_is_between ["thing", "low", "high"] (defScope s_is_between) := ⟨rfl, rfl, rfl, by decide +kernel, rfl, by decide +kernel, by decide +kernel⟩
abbrev s_common : Stmt := topS 16
abbrev N_common : List Str := ["one", "other"]
theorem sc_common : FnScope N_common ["one", "other"] (defScope s_common) := ⟨rfl, rfl, rfl, by decide +kernel, rfl, by decide +kernel, by decide +kernel⟩
abbrev s_need_long : Stmt := topS 17
abbrev N_need_long : List Str := ["places", "told", "one", "other"]
theorem sc_need_long : FnScope N_need_long ["places", "told"] (defScope s_need_long) := ⟨rfl, rfl, rfl, by decide +kernel, rfl, by decide +kernel, by decide +kernel⟩
abbrev s_ties : Stmt := topS 18
abbrev N_ties : List Str := ["places", "told", "near", "frame", "counts", "stand", "more", "found", "start", "line", "here", "there", "place"]
theorem sc_ties : FnScope N_ties ["places", "told"] (defScope s_ties) := ⟨rfl, rfl, rfl, by decide +kernel, rfl, by decide +kernel, by decide +kernel⟩
abbrev s_as_one : Stmt := topS 19
abbrev N_as_one : List Str := ["places", "told", "by", "frame", "counts", "some", "firsts", "whole", "found", "stand"]
theorem sc_as_one : FnScope N_as_one ["places", "told"] (defScope s_as_one) := ⟨rfl, rfl, rfl, by decide +kernel, rfl, by decide +kernel, by decide +kernel⟩
abbrev s_all_stands : Stmt := topS 20
abbrev N_all_stands : List Str := ["places", "told", "many", "found", "frame", "counts", "stand", "count", "own", "inside", "place", "number"]
theorem sc_all_stands : FnScope N_all_stands ["places", "told"] (defScope s_all_stands) := ⟨rfl, rfl, rfl, by decide +kernel, rfl, by decide +kernel, by decide +kernel⟩
abbrev s_lessened : Stmt := topS 21
abbrev N_lessened : List Str := ["row", "by", "one"]
theorem sc_lessened : FnScope N_lessened ["row"] (defScope s_lessened) := ⟨rfl, rfl, rfl, by decide +kernel, rfl, by decide +kernel, by decide +kernel⟩
abbrev s_without : Stmt := topS 22
abbrev N_without : List Str := ["row", "other", "place", "one", "two"]
theorem sc_without : FnScope N_without ["row", "other", "place"] (defScope s_without) := ⟨rfl, rfl, rfl, by decide +kernel, rfl, by decide +kernel, by decide +kernel⟩
abbrev s_weights : Stmt := topS 23
abbrev N_weights : List Str := ["places", "told", "rows", "place", "some", "rest", "bad", "found", "at", "frame", "counts", "row"]
theorem sc_weights : FnScope N_weights ["places", "told"] (defScope s_weights) := ⟨rfl, rfl, rfl, by decide +kernel, rfl, by decide +kernel, by decide +kernel⟩
abbrev s_are_weights_by_form : Stmt := topS 24
abbrev N_are_weights_by_form : List Str := ["told", "thing", "one", "frame", "counts", "some"]
theorem sc_are_weights_by_form : FnScope N_are_weights_by_form ["told", "thing"] (defScope s_are_weights_by_form) := ⟨rfl, rfl, rfl, by decide +kernel, rfl, by decide +kernel, by decide +kernel⟩
abbrev s_are_weights : Stmt := topS 25
abbrev N_are_weights : List Str := ["places", "told", "thing", "sums", "whole", "some", "frame", "counts", "stand", "weight", "place", "one"]
theorem sc_are_weights : FnScope N_are_weights ["places", "told", "thing"] (defScope s_are_weights) := ⟨rfl, rfl, rfl, by decide +kernel, rfl, by decide +kernel, by decide +kernel⟩
abbrev s_l_draw : Stmt := topS 27
abbrev N_l_draw : List Str := ["draws", "many", "found", "wide"]
theorem sc_l_draw : FnScope N_l_draw ["draws", "many"] (defScope s_l_draw) := ⟨rfl, rfl, rfl, by decide +kernel, rfl, by decide +kernel, by decide +kernel⟩
abbrev s_l_of : Stmt := topS 28
abbrev N_l_of : List Str := ["draws", "some"]
theorem sc_l_of : FnScope N_l_of ["draws", "some"] (defScope s_l_of) := ⟨rfl, rfl, rfl, by decide +kernel, rfl, by decide +kernel, by decide +kernel⟩
abbrev s_l_is_whole : Stmt := topS 29
abbrev N_l_is_whole : List Str := ["thing", "low", "high"]
theorem sc_l_is_whole : FnScope N_l_is_whole ["thing", "low", "high"] (defScope s_l_is_whole) := ⟨rfl, rfl, rfl, by decide +kernel, rfl, by decide +kernel, by decide +kernel⟩
abbrev s_l_are_weights : Stmt := topS 30
abbrev N_l_are_weights : List Str := ["places_d", "told_d", "thing", "whole", "sums", "some", "frame", "counts", "stand", "weight", "place", "one"]
theorem sc_l_are_weights : FnScope N_l_are_weights ["places_d", "told_d", "thing"] (defScope s_l_are_weights) := ⟨rfl, rfl, rfl, by decide +kernel, rfl, by decide +kernel, by decide +kernel⟩
abbrev s_l_grown : Stmt := topS 31
abbrev N_l_grown : List Str := ["places_d", "frame", "counts", "firsts", "found", "place", "stand"]
theorem sc_l_grown : FnScope N_l_grown ["places_d", "frame", "counts", "firsts"] (defScope s_l_grown) := ⟨rfl, rfl, rfl, by decide +kernel, rfl, by decide +kernel, by decide +kernel⟩
abbrev s_l_counts : Stmt := topS 32
abbrev N_l_counts : List Str := ["row", "frame", "found", "stand", "whole", "place"]
theorem sc_l_counts : FnScope N_l_counts ["row", "frame"] (defScope s_l_counts) := ⟨rfl, rfl, rfl, by decide +kernel, rfl, by decide +kernel, by decide +kernel⟩
abbrev s_l_draws : Stmt := topS 33
abbrev N_l_draws : List Str := ["script", "k", "cell"]
theorem sc_l_draws : FnScope N_l_draws ["script", "k"] (defScope s_l_draws) := ⟨rfl, rfl, rfl, by decide +kernel, rfl, by decide +kernel, by decide +kernel⟩
abbrev s_l_common : Stmt := topS 34
abbrev N_l_common : List Str := ["one", "other"]
theorem sc_l_common : FnScope N_l_common ["one", "other"] (defScope s_l_common) := ⟨rfl, rfl, rfl, by decide +kernel, rfl, by decide +kernel, by decide +kernel⟩
abbrev s_l_lengths : Stmt := topS 35
abbrev N_l_lengths : List Str := ["draws", "places_d", "found", "turn", "length", "some"]
theorem sc_l_lengths : FnScope N_l_lengths ["draws", "places_d"] (defScope s_l_lengths) := ⟨rfl, rfl, rfl, by decide +kernel, rfl, by decide +kernel, by decide +kernel⟩
abbrev s_l_signed : Stmt := topS 36
abbrev N_l_signed : List Str := ["draws", "places_d", "far", "place"]
theorem sc_l_signed : FnScope N_l_signed ["draws", "places_d"] (defScope s_l_signed) := ⟨rfl, rfl, rfl, by decide +kernel, rfl, by decide +kernel, by decide +kernel⟩
abbrev s_l_kind_of : Stmt := topS 37
abbrev N_l_kind_of : List Str := ["e", "some", "titles", "title", "one"]
theorem sc_l_kind_of : FnScope N_l_kind_of ["e"] (defScope s_l_kind_of) := ⟨rfl, rfl, rfl, by decide +kernel, rfl, by decide +kernel, by decide +kernel⟩
abbrev s_l_refusal : Stmt := topS 38
abbrev N_l_refusal : List Str := ["e"]
theorem sc_l_refusal : FnScope N_l_refusal ["e"] (defScope s_l_refusal) := ⟨rfl, rfl, rfl, by decide +kernel, rfl, by decide +kernel, by decide +kernel⟩
abbrev s_l_told : Stmt := topS 39
abbrev N_l_told : List Str := ["deed", "found", "e"]
theorem sc_l_told : FnScope N_l_told ["deed"] (defScope s_l_told) := ⟨rfl, rfl, rfl, by decide +kernel, rfl, by decide +kernel, by decide +kernel⟩
abbrev s_l_moved : Stmt := topS 40
abbrev N_l_moved : List Str := ["draws", "row", "by", "found", "more", "less", "far", "place"]
theorem sc_l_moved : FnScope N_l_moved ["draws", "row", "by"] (defScope s_l_moved) := ⟨rfl, rfl, rfl, by decide +kernel, rfl, by decide +kernel, by decide +kernel⟩
abbrev s_l_bent : Stmt := topS 41
abbrev N_l_bent : List Str := ["draws", "told_d", "at", "counts", "turn", "spot"]
theorem sc_l_bent : FnScope N_l_bent ["draws", "told_d"] (defScope s_l_bent) := ⟨rfl, rfl, rfl, by decide +kernel, rfl, by decide +kernel, by decide +kernel⟩
abbrev s_l_told_so : Stmt := topS 42
abbrev N_l_told_so : List Str := ["places_d", "told_d", "one", "thing", "by", "counts", "row", "length", "some"]
theorem sc_l_told_so : FnScope N_l_told_so ["places_d", "told_d"] (defScope s_l_told_so) := ⟨rfl, rfl, rfl, by decide +kernel, rfl, by decide +kernel, by decide +kernel⟩
abbrev s_law : Stmt := topS 43
abbrev N_law : List Str := ["script", "k", "draws", "places_d", "lengths", "row", "told_d", "by", "length", "other", "bent", "some", "long1", "long2", "pair"]
theorem sc_law : FnScope N_law ["script"] (defScope s_law) := ⟨rfl, rfl, rfl, by decide +kernel, rfl, by decide +kernel, by decide +kernel⟩
def S_is_between : SS := (sRet (sAndV (sIsi .int (sV 0)) (sAndV (sNotV (sIsi .bool (sV 0))) (sChain leD leD (sV 1) (sV 0) (sV 2)))))
def F_is_between : List D → Option D := bodyP 3 0 S_is_between
def S_common : SS := (sSeq (whileS (sB (sOp neD (sV 1) (sC (.int 0)))) (sMany [0, 1] (sAvP (sV 1) (sAvP (sOp modN (sV 0) (sV 1)) sAvNil))) 100)
 (sRet (sCB absD (sCons (sV 0) sNil))))
def F_common : List D → Option D := bodyP 2 0 S_common
def S_need_long : SS := (sIfS (sB (sOp gtD (sCB lenD (sCons (sV 1) sNil)) (sC (.int 1))))
 (sThen [2, 3] (sSeq (sMany [2, 3] (sAvP (sOp ixD (sOp ixD (sV 1) (sUn negD (sC (.int 2)))) (sC (.int 0))) (sAvP (sOp ixD (sOp ixD (sV 1) (sUn negD (sC (.int 1)))) (sC (.int 0))) sAvNil)))
 (sIfS (sB (sOp ltD (sV 0) (sOp subD (sOp addD (sV 2) (sV 3)) (sCall F_common (sCons (sV 2) (sCons (sV 3) sNil))))))
 sNever
 sNext)))
 sNext)
def F_need_long : List D → Option D := bodyP 2 2 S_need_long
def S_ties : SS := (sNear 2 12 (sCons (sV 0) sNil)
 (nFor (sItT (sV 1)) (qTup (qCons (qN 3) (qCons (qN 4) qNil))) (nThen [3, 4] (nFor (sR1 (sCons (sOp subD (sV 0) (sV 3)) sNil)) (qN 5) (nThen [5, 6] (nSeq (nAsg 2 (sOp subD (sOp ixD (sV 4) (sOp addD (sV 5) (sC (.int 1)))) (sOp ixD (sV 4) (sV 5))) 6)
 (nSeq (nApp (sV 5) (sTup (sCons (sOp addD (sV 5) (sV 3)) (sCons (sV 6) sNil))))
 (nApp (sOp addD (sV 5) (sV 3)) (sTup (sCons (sV 5) (sCons (sOp subD (sC (.int 0)) (sV 6)) sNil))))))))))
 (sSeq (sAsgL (sRepL (sDispL (sCons (sC .none) sNil)) (sV 0)) 7)
 (sSeq (sFor (sR1 (sCons (sV 0) sNil)) (qN 8)
 (sThen [8] (sIfS (sB (sOp isND (sIxO 7 (sV 8)) (sC .none)))
 (sThen [9] (sSeq (sSetI 7 (sV 8) (sC (.int 0)))
 (sSeq (sAsgL (sDispL (sCons (sV 8) sNil)) 9)
 (whileS (sFlT 9 (sB (sOp neD (sV 9) (sLst sNil)))) (sThen [10] (sSeq (sPopTo 10 9)
 (sFor (sItL (sOp ixD (sV 2) (sV 10))) (qTup (qCons (qN 11) (qCons (qN 6) qNil)))
 (sThen [6, 11] (sIfS (sB (sOp isND (sIxO 7 (sV 11)) (sC .none)))
 (sSeq (sSetI 7 (sV 11) (sOp addD (sIxO 7 (sV 10)) (sV 6)))
 (sApp 9 (sV 11)))
 (sIfS (sB (sOp neD (sIxO 7 (sV 11)) (sOp addD (sIxO 7 (sV 10)) (sV 6))))
 (sRet (sC .none))
 sNext)))))) 100))))
 sNext)))
 (sFrz 7 (sRet (sV 7))))))
def F_ties : List D → Option D := bodyP 2 11 S_ties
def S_as_one : SS := (sSeq (sDrop (sCall F_need_long (sCons (sV 0) (sCons (sV 1) sNil))))
 (sSeq (sAsg (sOp ixD (sOp ixD (sV 1) (sC (.int 0))) (sC (.int 0))) (qN 2))
 (sSeq (sFor (sItT (sV 1)) (qTup (qCons (qN 3) (qCons (qN 4) qNil)))
 (sThen [3, 4] (sAsg (sCall F_common (sCons (sV 2) (sCons (sV 3) sNil))) (qN 2))))
 (sSeq (sAsg (sCall F_ties (sCons (sV 0) (sCons (sV 1) sNil))) (qN 5))
 (sSeq (sIfS (sB (sOp isND (sV 5) (sC .none)))
 (sRet (sC .none))
 sNext)
 (sSeq (sDNew 6)
 (sSeq (sFor (sItT (sV 1)) (qTup (qCons (qN 3) (qCons (qN 4) qNil)))
 (sThen [3, 4, 7] (sSeq (sAsg (sOp subD (sOp ixD (sV 4) (sC (.int 0))) (sCB sumA (sCons (sSl slD (sV 5) sNoP (sP (sV 3))) sNil))) (qN 7))
 (sSeq (sIfS (sB (sOp neD (sOp modD (sV 7) (sOp fdivD (sV 3) (sV 2))) (sC (.int 0))))
 (sRet (sC .none))
 sNext)
 (sDPutS 6 (sOp fdivD (sV 7) (sOp fdivD (sV 3) (sV 2))) (sC (.bool true)))))))
 (sSeq (sIfS (sB (sOp gtD (sDLenO 6) (sC (.int 1))))
 (sRet (sC .none))
 sNext)
 (sSeq (sAsgL (sDispL (sCons (sOp addD (sDMin 6) (sCB sumA (sCons (sSl slD (sV 5) sNoP (sP (sV 2))) sNil))) sNil)) 8)
 (sSeq (sFor (sR1 (sCons (sOp subD (sV 0) (sV 2)) sNil)) (qN 9)
 (sThen [9] (sApp 8 (sOp subD (sOp addD (sIxO 8 (sUn negD (sC (.int 1)))) (sOp ixD (sV 5) (sOp addD (sV 9) (sV 2)))) (sOp ixD (sV 5) (sV 9))))))
 (sFrz 8 (sRet (sTup (sCons (sV 2) (sCons (sCB tupleD (sCons (sV 8) sNil)) sNil)))))))))))))))
def F_as_one : List D → Option D := bodyP 2 8 S_as_one
def S_all_stands : SS := (sSeq (sAsg (sCB sumA (sCons (sOfL (sLc (sItT (sV 1)) (qTup (qCons (qN 4) (qCons (qN 5) qNil))) sYes (sCB lenD (sCons (sV 5) sNil)) [4, 5])) sNil)) (qN 2))
 (sSeq (sAsgL (sDispL sNil) 3)
 (sSeq (sFor (sItT (sV 1)) (qTup (qCons (qN 4) (qCons (qN 5) qNil)))
 (sThen [4, 5] (sFor (sEnum (sV 5)) (qTup (qCons (qN 6) (qCons (qN 7) qNil)))
 (sThen [6, 7, 8, 9] (sSeq (sAsg (sFl 3 (sCB lenD (sCons (sV 3) sNil))) (qN 8))
 (sSeq (sAsg (sOfL (sLc (sR1 (sCons (sV 0) sNil)) (qN 10) sYes (sCB intD (sCons (sChain leD ltD (sV 6) (sV 10) (sOp addD (sV 6) (sV 4))) sNil)) [10])) (qN 9))
 (sApp 3 (sOp addD (sOp addD (sV 9) (sLst (sCons (sV 7) sNil))) (sOfL (sLc (sR1 (sCons (sV 2) sNil)) (qN 11) sYes (sCB intD (sCons (sOp eqD (sV 11) (sV 8)) sNil)) [11]))))))))))
 (sFrz 3 (sRet (sV 3))))))
def F_all_stands : List D → Option D := bodyP 2 10 S_all_stands
def S_lessened : SS := (sSeq (sAsg (sC (.int 0)) (qN 1))
 (sSeq (sFor (sItL (sV 0)) (qN 2)
 (sThen [2] (sAsg (sCall F_common (sCons (sV 1) (sCons (sV 2) sNil))) (qN 1))))
 (sRet (sIfE (sB (sOp gtD (sV 1) (sC (.int 1)))) (sOfL (sLc (sItL (sV 0)) (qN 2) sYes (sOp fdivD (sV 2) (sV 1)) [2])) (sV 0)))))
def F_lessened : List D → Option D := bodyP 1 2 S_lessened
def S_without : SS := (sRet (sCall F_lessened (sCons (sOfL (sLc (sZip (sV 0) (sV 1)) (qTup (qCons (qN 3) (qCons (qN 4) qNil))) sYes (sOp subD (sOp mulD (sV 3) (sOp ixD (sV 1) (sV 2))) (sOp mulD (sV 4) (sOp ixD (sV 0) (sV 2)))) [3, 4])) sNil)))
def F_without : List D → Option D := bodyP 3 2 S_without
def S_weights : SS := (sSeq (sDrop (sCall F_need_long (sCons (sV 0) (sCons (sV 1) sNil))))
 (sSeq (sAsg (sCall F_all_stands (sCons (sV 0) (sCons (sV 1) sNil))) (qN 2))
 (sSeq (sFor (sR1 (sCons (sV 0) sNil)) (qN 3)
 (sThen [3, 4] (sSeq (sAsg (sOfL (sLc (sItL (sV 2)) (qN 11) (sB (sOp neD (sOp ixD (sV 11) (sV 3)) (sC (.int 0)))) (sV 11) [11])) (qN 4))
 (sIfS (sB (sOp neD (sV 4) (sLst sNil)))
 (sThen [5] (sSeq (sAsg (sOfL (sLc (sItL (sV 2)) (qN 11) (sB (sOp eqD (sOp ixD (sV 11) (sV 3)) (sC (.int 0)))) (sV 11) [11])) (qN 5))
 (sAsg (sOp addD (sV 5) (sOfL (sLc (sItL (sSl slD (sV 4) (sP (sC (.int 1))) sNoP)) (qN 11) sYes (sCall F_without (sCons (sV 11) (sCons (sOp ixD (sV 4) (sC (.int 0))) (sCons (sV 3) sNil)))) [11]))) (qN 2))))
 sNext))))
 (sSeq (sAsg (sOfL (sLc (sItL (sV 2)) (qN 11) (sB (sOp neD (sOp ixD (sV 11) (sV 0)) (sC (.int 0)))) (sV 11) [11])) (qN 6))
 (sSeq (sIfS (sB (sOp eqD (sV 6) (sLst sNil)))
 (sRet (sC .none))
 sNext)
 (sSeq (sMany [7, 8] (sAvF (sDispL sNil) (sAvP (sOp addD (sV 0) (sC (.int 1))) sAvNil)))
 (sSeq (sFor (sItT (sV 1)) (qTup (qCons (qN 9) (qCons (qN 10) qNil)))
 (sThen [9, 10] (sSeq (sApp 7 (sCB tupleD (sCons (sSl slD (sOp ixD (sV 6) (sC (.int 0))) (sP (sV 8)) (sP (sOp addD (sV 8) (sCB lenD (sCons (sV 10) sNil))))) sNil)))
 (sAsg (sOp addD (sV 8) (sCB lenD (sCons (sV 10) sNil))) (qN 8)))))
 (sFrz 7 (sRet (sCB tupleD (sCons (sV 7) sNil)))))))))))
def F_weights : List D → Option D := bodyP 2 10 S_weights
def S_are_weights_by_form : SS := (sSeq (sIfS (sOr (sNot (sB (sIsi .tuple (sV 1)))) (sOr (sB (sOp neD (sCB lenD (sCons (sV 1) sNil)) (sCB lenD (sCons (sV 0) sNil)))) (sNot (sB (sCB allD (sCons (sOfL (sLc (sItT (sV 1)) (qN 2) sYes (sIsi .tuple (sV 2)) [2])) sNil))))))
 (sRet (sC (.bool false)))
 sNext)
 (sSeq (sIfS (sNot (sB (sCB allD (sCons (sOfL (sLc (sZip (sV 1) (sV 0)) (qTup (qCons (qN 2) (qCons (qTup (qCons (qN 3) (qCons (qN 4) qNil))) qNil))) sYes (sOp eqD (sCB lenD (sCons (sV 2) sNil)) (sCB lenD (sCons (sV 4) sNil))) [2, 3, 4])) sNil))))
 (sRet (sC (.bool false)))
 sNext)
 (sRet (sCB allD (sCons (sOfL (sLc2 (sItT (sV 1)) (qN 5) sYes (sItT (sV 5)) (qN 2) sYes (sCall F_is_between (sCons (sV 2) (sCons (sOp subD (sC (.int 0)) (sC (.int (10000000000000000000000000000000000000000)))) (sCons (sC (.int (10000000000000000000000000000000000000000))) sNil)))) [5, 2] [2])) sNil)))))
def F_are_weights_by_form : List D → Option D := bodyP 2 4 S_are_weights_by_form
def S_are_weights : SS := (sSeq (sIfS (sNot (sB (sCall F_are_weights_by_form (sCons (sV 1) (sCons (sV 2) sNil)))))
 (sRet (sC (.bool false)))
 sNext)
 (sSeq (sMany [3, 4] (sAvF (sRepL (sDispL (sCons (sC (.int 0)) sNil)) (sV 0)) (sAvP (sC (.int 0)) sAvNil)))
 (sSeq (sFor (sZip (sV 2) (sV 1)) (qTup (qCons (qN 5) (qCons (qTup (qCons (qN 6) (qCons (qN 7) qNil))) qNil)))
 (sThen [5, 6, 7] (sFor (sEnum (sV 5)) (qTup (qCons (qN 8) (qCons (qN 9) qNil)))
 (sThen [8, 9] (sSeq (sAug ipaddD 4 (sOp mulD (sV 9) (sOp ixD (sV 7) (sV 8))))
 (sFor (sR2 (sCons (sV 8) (sCons (sOp addD (sV 8) (sV 6)) sNil))) (qN 10)
 (sThen [10] (sAugI ipaddD 3 (sV 10) (sV 9)))))))))
 (sFrz 3 (sRet (sAndV (sOp neD (sV 4) (sC (.int 0))) (sNotV (sCB anyD (sCons (sOfL (sLc (sItL (sV 3)) (qN 11) sYes (sOp neD (sV 11) (sC (.int 0))) [11])) sNil)))))))))
def F_are_weights : List D → Option D := bodyP 3 9 S_are_weights
def S_l_draw : SS := (sSeq (sIfS (sB (sOp gtD (sDrIx 0 (sC (.int 0))) (sC (.int 0))))
 (sSeq (sAsg (sOp modD (sDrIx 0 (sC (.int 0))) (sV 1)) (qN 2))
 (sSeq (sDrSet 0 (sC (.int 0)) (sOp fdivD (sDrIx 0 (sC (.int 0))) (sV 1)))
 (sRet (sV 2))))
 sNext)
 (sSeq (sAsg (sC (.int 0)) (qN 2))
 (sSeq (sAsg (sC (.int 1)) (qN 3))
 (sSeq (whileS (sB (sOp ltD (sV 3) (sV 1))) (sSeq (sDrSet 0 (sC (.int 1)) (sOp modD (sOp mulD (sDrIx 0 (sC (.int 1))) (sC (.int 69621))) (sC (.int 2147483647))))
 (sSeq (sAsg (sOp addD (sOp mulD (sV 2) (sC (.int 268435456))) (sOp fdivD (sOp modD (sOp mulD (sDrIx 0 (sC (.int 1))) (sOp addD (sOp fdivD (sDrIx 0 (sC (.int 1))) (sC (.int 128))) (sC (.int 3)))) (sC (.int 2147483629))) (sC (.int 8)))) (qN 2))
 (sAsg (sOp mulD (sV 3) (sC (.int 268435456))) (qN 3)))) 3)
 (sRet (sOp modD (sV 2) (sV 1)))))))
def F_l_draw : List D → Dr → Option (D × Dr) := bodyD 1 2 S_l_draw
def S_l_of : SS := (sRet (sOp ixD (sV 1) (sCallD F_l_draw 0 (sCons (sCB lenD (sCons (sV 1) sNil)) sNil))))
def F_l_of : List D → Dr → Option (D × Dr) := bodyD 1 0 S_l_of
def S_l_is_whole : SS := (sRet (sAndV (sIsi .int (sV 0)) (sAndV (sNotV (sIsi .bool (sV 0))) (sChain leD leD (sV 1) (sV 0) (sV 2)))))
def F_l_is_whole : List D → Option D := bodyP 3 0 S_l_is_whole
def S_l_are_weights : SS := (sSeq (sIfS (sOr (sNot (sB (sIsi .tuple (sV 2)))) (sB (sOp neD (sCB lenD (sCons (sV 2) sNil)) (sCB lenD (sCons (sV 1) sNil)))))
 (sRet (sC (.bool false)))
 sNext)
 (sSeq (sMany [3, 4] (sAvP (sC (.int 0)) (sAvF (sRepL (sDispL (sCons (sC (.int 0)) sNil)) (sV 0)) sAvNil)))
 (sSeq (sFor (sZip (sV 2) (sV 1)) (qTup (qCons (qN 5) (qCons (qTup (qCons (qN 6) (qCons (qN 7) qNil))) qNil)))
 (sThen [5, 6, 7] (sSeq (sIfS (sOr (sNot (sB (sIsi .tuple (sV 5)))) (sB (sOp neD (sCB lenD (sCons (sV 5) sNil)) (sCB lenD (sCons (sV 7) sNil)))))
 (sRet (sC (.bool false)))
 sNext)
 (sFor (sEnum (sV 5)) (qTup (qCons (qN 8) (qCons (qN 9) qNil)))
 (sThen [8, 9] (sSeq (sIfS (sNot (sB (sCall F_l_is_whole (sCons (sV 9) (sCons (sUn negD (sOp powD (sC (.int 10)) (sC (.int 39)))) (sCons (sOp powD (sC (.int 10)) (sC (.int 39))) sNil))))))
 (sRet (sC (.bool false)))
 sNext)
 (sSeq (sAsg (sOp addD (sV 3) (sOp mulD (sV 9) (sOp ixD (sV 7) (sV 8)))) (qN 3))
 (sFor (sR2 (sCons (sV 8) (sCons (sOp addD (sV 8) (sV 6)) sNil))) (qN 10)
 (sThen [10] (sSetI 4 (sV 10) (sOp addD (sIxO 4 (sV 10)) (sV 9))))))))))))
 (sFrz 4 (sRet (sAndV (sOp neD (sV 3) (sC (.int 0))) (sOp eqD (sOfL (sLc (sItL (sV 4)) (qN 11) (sB (sOp neD (sV 11) (sC (.int 0)))) (sV 11) [11])) (sLst sNil))))))))
def F_l_are_weights : List D → Option D := bodyP 3 9 S_l_are_weights
def S_l_grown : SS := (sSeq (sAsgL (sListOf (sCons (sV 3) sNil)) 4)
 (sSeq (sFor (sR2 (sCons (sV 1) (sCons (sV 0) sNil))) (qN 5)
 (sThen [5, 6] (sSeq (sAsg (sOp subD (sV 5) (sV 1)) (qN 6))
 (sApp 4 (sOp subD (sOp addD (sIxO 4 (sV 6)) (sOp ixD (sV 2) (sOp addD (sV 6) (sC (.int 1))))) (sOp ixD (sV 2) (sV 6)))))))
 (sFrz 4 (sRet (sCB tupleD (sCons (sV 4) sNil))))))
def F_l_grown : List D → Option D := bodyP 4 3 S_l_grown
def S_l_counts : SS := (sSeq (sAsgL (sDispL sNil) 2)
 (sSeq (sFor (sR1 (sCons (sOp addD (sOp subD (sCB lenD (sCons (sV 0) sNil)) (sV 1)) (sC (.int 1))) sNil)) (qN 3)
 (sThen [3, 4] (sSeq (sAsg (sC (.int 0)) (qN 4))
 (sSeq (sFor (sR2 (sCons (sV 3) (sCons (sOp addD (sV 3) (sV 1)) sNil))) (qN 5)
 (sThen [5] (sAsg (sOp addD (sV 4) (sOp ixD (sV 0) (sV 5))) (qN 4))))
 (sApp 2 (sV 4))))))
 (sFrz 2 (sRet (sCB tupleD (sCons (sV 2) sNil))))))
def F_l_counts : List D → Option D := bodyP 2 4 S_l_counts
def S_l_common : SS := (sSeq (whileS (sB (sOp neD (sV 1) (sC (.int 0)))) (sMany [0, 1] (sAvP (sV 1) (sAvP (sOp modN (sV 0) (sV 1)) sAvNil))) 100)
 (sRet (sCB absD (sCons (sV 0) sNil))))
def F_l_common : List D → Option D := bodyP 2 0 S_l_common
def S_l_lengths : SS := (sSeq (sAsg (sLst sNil) (qN 2))
 (sSeq (sFor (sR1 (sCons (sOp addD (sC (.int 1)) (sCallD F_l_draw 0 (sCons (sC (.int 3)) sNil))) sNil)) (qN 3)
 (sThen [3, 4, 5] (sSeq (sAsg (sOp addD (sC (.int 1)) (sCallD F_l_draw 0 (sCons (sCallD F_l_of 0 (sCons (sLst (sCons (sV 1) (sCons (sV 1) (sCons (sCB maxS (sCons (sC (.int 1)) (sCons (sOp fdivD (sV 1) (sC (.int 2))) sNil))) (sCons (sCB minS (sCons (sV 1) (sCons (sC (.int 6)) sNil))) sNil))))) sNil)) sNil))) (qN 4))
 (sSeq (sAsg (sOfL (sSortSetL (sOp addD (sV 2) (sLst (sCons (sV 4) sNil))))) (qN 5))
 (sIfS (sOr (sB (sOp ltD (sCB lenD (sCons (sV 5) sNil)) (sC (.int 2)))) (sB (sOp geD (sV 1) (sOp subD (sOp addD (sOp ixD (sV 5) (sUn negD (sC (.int 1)))) (sOp ixD (sV 5) (sUn negD (sC (.int 2))))) (sCall F_l_common (sCons (sOp ixD (sV 5) (sUn negD (sC (.int 1)))) (sCons (sOp ixD (sV 5) (sUn negD (sC (.int 2)))) sNil)))))))
 (sAsg (sV 5) (qN 2))
 sNext)))))
 (sRet (sV 2))))
def F_l_lengths : List D → Dr → Option (D × Dr) := bodyD 1 4 S_l_lengths
def S_l_signed : SS := (sSeq (sAsg (sCallD F_l_of 0 (sCons (sLst (sCons (sC (.int 1)) (sCons (sC (.int 5)) (sCons (sC (.int 1000)) sNil)))) sNil)) (qN 2))
 (sRet (sCB tupleD (sCons (sOfL (sLc (sR1 (sCons (sV 1) sNil)) (qN 3) sYes (sOp subD (sCallD F_l_draw 0 (sCons (sOp addD (sOp mulD (sC (.int 2)) (sV 2)) (sC (.int 1))) sNil)) (sV 2)) [3])) sNil))))
def F_l_signed : List D → Dr → Option (D × Dr) := bodyD 1 2 S_l_signed
def S_l_moved : SS := (sSeq (sAsgL (sListOf (sCons (sV 1) sNil)) 3)
 (sSeq (sIfS (sB (sOp gtD (sV 2) (sC (.int 1))))
 (sThen [4, 5, 6] (sSeq (sMany [4, 5, 6] (sAvP (sCallD F_l_draw 0 (sCons (sV 2) sNil)) (sAvP (sCallD F_l_draw 0 (sCons (sV 2) sNil)) (sAvP (sOp addD (sC (.int 1)) (sCallD F_l_draw 0 (sCons (sC (.int 9)) sNil))) sAvNil))))
 (sFor (sR1 (sCons (sCB lenD (sCons (sV 1) sNil)) sNil)) (qN 7)
 (sThen [7] (sSeq (sIfS (sB (sOp eqD (sOp modD (sV 7) (sV 2)) (sV 4)))
 (sSetI 3 (sV 7) (sOp addD (sIxO 3 (sV 7)) (sV 6)))
 sNext)
 (sIfS (sB (sOp eqD (sOp modD (sV 7) (sV 2)) (sV 5)))
 (sSetI 3 (sV 7) (sOp subD (sIxO 3 (sV 7)) (sV 6)))
 sNext))))))
 sNext)
 (sFrz 3 (sRet (sCB tupleD (sCons (sV 3) sNil))))))
def F_l_moved : List D → Dr → Option (D × Dr) := bodyD 2 5 S_l_moved
def S_l_bent : SS := (sSeq (sAsg (sCallD F_l_draw 0 (sCons (sCB lenD (sCons (sV 1) sNil)) sNil)) (qN 2))
 (sSeq (sAsgL (sListOf (sCons (sOp ixD (sOp ixD (sV 1) (sV 2)) (sC (.int 1))) sNil)) 3)
 (sSeq (sFor (sR1 (sCons (sOp addD (sC (.int 1)) (sCallD F_l_draw 0 (sCons (sC (.int 2)) sNil))) sNil)) (qN 4)
 (sThen [4, 5] (sSeq (sAsg (sCallD F_l_draw 0 (sCons (sFl 3 (sCB lenD (sCons (sV 3) sNil))) sNil)) (qN 5))
 (sSetI 3 (sV 5) (sOp addD (sIxO 3 (sV 5)) (sCallD F_l_of 0 (sCons (sLst (sCons (sC (.int 1)) (sCons (sUn negD (sC (.int 1))) (sCons (sC (.int 2)) (sCons (sC (.int 50)) sNil))))) sNil)))))))
 (sFrz 3 (sRet (sOp addD (sOp addD (sSl slD (sV 1) sNoP (sP (sV 2))) (sTup (sCons (sTup (sCons (sOp ixD (sOp ixD (sV 1) (sV 2)) (sC (.int 0))) (sCons (sCB tupleD (sCons (sV 3) sNil)) sNil))) sNil))) (sSl slD (sV 1) (sP (sOp addD (sV 2) (sC (.int 1)))) sNoP)))))))
def F_l_bent : List D → Dr → Option (D × Dr) := bodyD 1 4 S_l_bent
def S_l_told_so : SS := (sSeq (sMany [2, 3] (sAvP (sCall F_as_one (sCons (sV 0) (sCons (sV 1) sNil))) (sAvP (sCall F_weights (sCons (sV 0) (sCons (sV 1) sNil))) sAvNil)))
 (sSeq (sIfS (sB (sOp eqD (sOp isND (sV 2) (sC .none)) (sOp isND (sV 3) (sC .none))))
 (sRet (sC (.bool false)))
 sNext)
 (sSeq (sIfS (sB (sOp notND (sV 3) (sC .none)))
 (sRet (sAndV (sCall F_l_are_weights (sCons (sV 0) (sCons (sV 1) (sCons (sV 3) sNil)))) (sOp isBD (sCall F_are_weights (sCons (sV 0) (sCons (sV 1) (sCons (sV 3) sNil)))) (sC (.bool true)))))
 sNext)
 (sSeq (sAsg (sV 2) (qTup (qCons (qN 4) (qCons (qN 5) qNil))))
 (sSeq (sIfS (sOr (sB (sOp neD (sOfL (sLc (sItT (sV 1)) (qTup (qCons (qN 7) (qCons (qN 8) qNil))) (sB (sOp neD (sOp modD (sV 7) (sV 4)) (sC (.int 0)))) (sV 7) [7, 8])) (sLst sNil))) (sB (sOp neD (sCB lenD (sCons (sV 5) sNil)) (sOp addD (sOp subD (sV 0) (sV 4)) (sC (.int 1))))))
 (sRet (sC (.bool false)))
 sNext)
 (sSeq (sAsg (sCall F_l_grown (sCons (sV 0) (sCons (sV 4) (sCons (sV 5) (sCons (sOp addD (sTup (sCons (sOp ixD (sV 5) (sC (.int 0))) sNil)) (sOp mulD (sTup (sCons (sC (.int 0)) sNil)) (sOp subD (sV 4) (sC (.int 1))))) sNil))))) (qN 6))
 (sRet (sOp eqD (sOfL (sLc (sItT (sV 1)) (qTup (qCons (qN 7) (qCons (qN 8) qNil))) (sB (sOp neD (sCall F_l_counts (sCons (sV 6) (sCons (sV 7) sNil))) (sV 8))) (sC (.int 1)) [7, 8])) (sLst sNil)))))))))
def F_l_told_so : List D → Option D := bodyP 2 7 S_l_told_so


end X
namespace X
open PySem PySem.Spec L2 DL
structure TX (K : PySem.W.Frag) (mg : Str → Option Value) where
  f_is_between : Addr
  d_is_between : FuncData
  F_is_between : Fun K "is_between" "is_between" s_is_between f_is_between d_is_between
  g_is_between : mg "is_between" = some (.ref f_is_between)
  f_common : Addr
  d_common : FuncData
  F_common : Fun K "common" "common" s_common f_common d_common
  g_common : mg "common" = some (.ref f_common)
  f_need_long : Addr
  d_need_long : FuncData
  F_need_long : Fun K "need_long" "need_long" s_need_long f_need_long d_need_long
  g_need_long : mg "need_long" = some (.ref f_need_long)
  f_ties : Addr
  d_ties : FuncData
  F_ties : Fun K "ties" "ties" s_ties f_ties d_ties
  g_ties : mg "ties" = some (.ref f_ties)
  f_as_one : Addr
  d_as_one : FuncData
  F_as_one : Fun K "as_one" "as_one" s_as_one f_as_one d_as_one
  g_as_one : mg "as_one" = some (.ref f_as_one)
  f_all_stands : Addr
  d_all_stands : FuncData
  F_all_stands : Fun K "all_stands" "all_stands" s_all_stands f_all_stands d_all_stands
  g_all_stands : mg "all_stands" = some (.ref f_all_stands)
  f_lessened : Addr
  d_lessened : FuncData
  F_lessened : Fun K "lessened" "lessened" s_lessened f_lessened d_lessened
  g_lessened : mg "lessened" = some (.ref f_lessened)
  f_without : Addr
  d_without : FuncData
  F_without : Fun K "without" "without" s_without f_without d_without
  g_without : mg "without" = some (.ref f_without)
  f_weights : Addr
  d_weights : FuncData
  F_weights : Fun K "weights" "weights" s_weights f_weights d_weights
  g_weights : mg "weights" = some (.ref f_weights)
  f_are_weights_by_form : Addr
  d_are_weights_by_form : FuncData
  F_are_weights_by_form : Fun K "are_weights_by_form" "are_weights_by_form" s_are_weights_by_form f_are_weights_by_form d_are_weights_by_form
  g_are_weights_by_form : mg "are_weights_by_form" = some (.ref f_are_weights_by_form)
  f_are_weights : Addr
  d_are_weights : FuncData
  F_are_weights : Fun K "are_weights" "are_weights" s_are_weights f_are_weights d_are_weights
  g_are_weights : mg "are_weights" = some (.ref f_are_weights)
  f_l_draw : Addr
  d_l_draw : FuncData
  F_l_draw : Fun K "_law_draw" "_law_draw" s_l_draw f_l_draw d_l_draw
  g_l_draw : mg "_law_draw" = some (.ref f_l_draw)
  f_l_of : Addr
  d_l_of : FuncData
  F_l_of : Fun K "_law_of" "_law_of" s_l_of f_l_of d_l_of
  g_l_of : mg "_law_of" = some (.ref f_l_of)
  f_l_is_whole : Addr
  d_l_is_whole : FuncData
  F_l_is_whole : Fun K "_law_is_whole" "_law_is_whole" s_l_is_whole f_l_is_whole d_l_is_whole
  g_l_is_whole : mg "_law_is_whole" = some (.ref f_l_is_whole)
  f_l_are_weights : Addr
  d_l_are_weights : FuncData
  F_l_are_weights : Fun K "_law_are_weights" "_law_are_weights" s_l_are_weights f_l_are_weights d_l_are_weights
  g_l_are_weights : mg "_law_are_weights" = some (.ref f_l_are_weights)
  f_l_grown : Addr
  d_l_grown : FuncData
  F_l_grown : Fun K "_law_grown" "_law_grown" s_l_grown f_l_grown d_l_grown
  g_l_grown : mg "_law_grown" = some (.ref f_l_grown)
  f_l_counts : Addr
  d_l_counts : FuncData
  F_l_counts : Fun K "_law_counts" "_law_counts" s_l_counts f_l_counts d_l_counts
  g_l_counts : mg "_law_counts" = some (.ref f_l_counts)
  f_l_draws : Addr
  d_l_draws : FuncData
  F_l_draws : Fun K "_law_draws" "_law_draws" s_l_draws f_l_draws d_l_draws
  g_l_draws : mg "_law_draws" = some (.ref f_l_draws)
  f_l_common : Addr
  d_l_common : FuncData
  F_l_common : Fun K "_law_common" "_law_common" s_l_common f_l_common d_l_common
  g_l_common : mg "_law_common" = some (.ref f_l_common)
  f_l_lengths : Addr
  d_l_lengths : FuncData
  F_l_lengths : Fun K "_law_lengths" "_law_lengths" s_l_lengths f_l_lengths d_l_lengths
  g_l_lengths : mg "_law_lengths" = some (.ref f_l_lengths)
  f_l_signed : Addr
  d_l_signed : FuncData
  F_l_signed : Fun K "_law_signed" "_law_signed" s_l_signed f_l_signed d_l_signed
  g_l_signed : mg "_law_signed" = some (.ref f_l_signed)
  f_l_kind_of : Addr
  d_l_kind_of : FuncData
  F_l_kind_of : Fun K "_law_kind_of" "_law_kind_of" s_l_kind_of f_l_kind_of d_l_kind_of
  g_l_kind_of : mg "_law_kind_of" = some (.ref f_l_kind_of)
  f_l_refusal : Addr
  d_l_refusal : FuncData
  F_l_refusal : Fun K "_law_refusal" "_law_refusal" s_l_refusal f_l_refusal d_l_refusal
  g_l_refusal : mg "_law_refusal" = some (.ref f_l_refusal)
  f_l_told : Addr
  d_l_told : FuncData
  F_l_told : Fun K "_law_told" "_law_told" s_l_told f_l_told d_l_told
  g_l_told : mg "_law_told" = some (.ref f_l_told)
  f_l_moved : Addr
  d_l_moved : FuncData
  F_l_moved : Fun K "_law_moved" "_law_moved" s_l_moved f_l_moved d_l_moved
  g_l_moved : mg "_law_moved" = some (.ref f_l_moved)
  f_l_bent : Addr
  d_l_bent : FuncData
  F_l_bent : Fun K "_law_bent" "_law_bent" s_l_bent f_l_bent d_l_bent
  g_l_bent : mg "_law_bent" = some (.ref f_l_bent)
  f_l_told_so : Addr
  d_l_told_so : FuncData
  F_l_told_so : Fun K "_law_told_so" "_law_told_so" s_l_told_so f_l_told_so d_l_told_so
  g_l_told_so : mg "_law_told_so" = some (.ref f_l_told_so)
  f_law : Addr
  d_law : FuncData
  F_law : Fun K "law" "law" s_law f_law d_law
  g_law : mg "law" = some (.ref f_law)
  t_MOST_WEIGHT : Tok
  c_MOST_WEIGHT : mg "MOST_WEIGHT" = some (.int (10000000000000000000000000000000000000000) t_MOST_WEIGHT)
  b_ValueError : mg "ValueError" = none
  b_abs : mg "abs" = none
  b_all : mg "all" = none
  b_any : mg "any" = none
  b_bool : mg "bool" = none
  b_enumerate : mg "enumerate" = none
  b_int : mg "int" = none
  b_isinstance : mg "isinstance" = none
  b_len : mg "len" = none
  b_list : mg "list" = none
  b_max : mg "max" = none
  b_min : mg "min" = none
  b_range : mg "range" = none
  b_set : mg "set" = none
  b_sorted : mg "sorted" = none
  b_sum : mg "sum" = none
  b_tuple : mg "tuple" = none
  b_zip : mg "zip" = none
theorem b_is_between {K : PySem.W.Frag} {mg : Str → Option Value} (T : TX K mg) : Binds K T.d_is_between ["thing", "low", "high"] [] := T.F_is_between.binds (ps := ["thing", "low", "high"]) fun _ _ _ _ _ _ us hl => match us, hl with | [_, _, _], _ => rfl
theorem b_common {K : PySem.W.Frag} {mg : Str → Option Value} (T : TX K mg) : Binds K T.d_common ["one", "other"] [] := T.F_common.binds (ps := ["one", "other"]) fun _ _ _ _ _ _ us hl => match us, hl with | [_, _], _ => rfl
theorem b_need_long {K : PySem.W.Frag} {mg : Str → Option Value} (T : TX K mg) : Binds K T.d_need_long ["places", "told"] [] := T.F_need_long.binds (ps := ["places", "told"]) fun _ _ _ _ _ _ us hl => match us, hl with | [_, _], _ => rfl
theorem b_ties {K : PySem.W.Frag} {mg : Str → Option Value} (T : TX K mg) : Binds K T.d_ties ["places", "told"] [] := T.F_ties.binds (ps := ["places", "told"]) fun _ _ _ _ _ _ us hl => match us, hl with | [_, _], _ => rfl
theorem b_as_one {K : PySem.W.Frag} {mg : Str → Option Value} (T : TX K mg) : Binds K T.d_as_one ["places", "told"] [] := T.F_as_one.binds (ps := ["places", "told"]) fun _ _ _ _ _ _ us hl => match us, hl with | [_, _], _ => rfl
theorem b_all_stands {K : PySem.W.Frag} {mg : Str → Option Value} (T : TX K mg) : Binds K T.d_all_stands ["places", "told"] [] := T.F_all_stands.binds (ps := ["places", "told"]) fun _ _ _ _ _ _ us hl => match us, hl with | [_, _], _ => rfl
theorem b_lessened {K : PySem.W.Frag} {mg : Str → Option Value} (T : TX K mg) : Binds K T.d_lessened ["row"] [] := T.F_lessened.binds (ps := ["row"]) fun _ _ _ _ _ _ us hl => match us, hl with | [_], _ => rfl
theorem b_without {K : PySem.W.Frag} {mg : Str → Option Value} (T : TX K mg) : Binds K T.d_without ["row", "other", "place"] [] := T.F_without.binds (ps := ["row", "other", "place"]) fun _ _ _ _ _ _ us hl => match us, hl with | [_, _, _], _ => rfl
theorem b_weights {K : PySem.W.Frag} {mg : Str → Option Value} (T : TX K mg) : Binds K T.d_weights ["places", "told"] [] := T.F_weights.binds (ps := ["places", "told"]) fun _ _ _ _ _ _ us hl => match us, hl with | [_, _], _ => rfl
theorem b_are_weights_by_form {K : PySem.W.Frag} {mg : Str → Option Value} (T : TX K mg) : Binds K T.d_are_weights_by_form ["told", "thing"] [] := T.F_are_weights_by_form.binds (ps := ["told", "thing"]) fun _ _ _ _ _ _ us hl => match us, hl with | [_, _], _ => rfl
theorem b_are_weights {K : PySem.W.Frag} {mg : Str → Option Value} (T : TX K mg) : Binds K T.d_are_weights ["places", "told", "thing"] [] := T.F_are_weights.binds (ps := ["places", "told", "thing"]) fun _ _ _ _ _ _ us hl => match us, hl with | [_, _, _], _ => rfl
theorem b_l_draw {K : PySem.W.Frag} {mg : Str → Option Value} (T : TX K mg) : Binds K T.d_l_draw ["draws", "many"] [] := T.F_l_draw.binds (ps := ["draws", "many"]) fun _ _ _ _ _ _ us hl => match us, hl with | [_, _], _ => rfl
theorem b_l_of {K : PySem.W.Frag} {mg : Str → Option Value} (T : TX K mg) : Binds K T.d_l_of ["draws", "some"] [] := T.F_l_of.binds (ps := ["draws", "some"]) fun _ _ _ _ _ _ us hl => match us, hl with | [_, _], _ => rfl
theorem b_l_is_whole {K : PySem.W.Frag} {mg : Str → Option Value} (T : TX K mg) : Binds K T.d_l_is_whole ["thing", "low", "high"] [] := T.F_l_is_whole.binds (ps := ["thing", "low", "high"]) fun _ _ _ _ _ _ us hl => match us, hl with | [_, _, _], _ => rfl
theorem b_l_are_weights {K : PySem.W.Frag} {mg : Str → Option Value} (T : TX K mg) : Binds K T.d_l_are_weights ["places_d", "told_d", "thing"] [] := T.F_l_are_weights.binds (ps := ["places_d", "told_d", "thing"]) fun _ _ _ _ _ _ us hl => match us, hl with | [_, _, _], _ => rfl
theorem b_l_grown {K : PySem.W.Frag} {mg : Str → Option Value} (T : TX K mg) : Binds K T.d_l_grown ["places_d", "frame", "counts", "firsts"] [] := T.F_l_grown.binds (ps := ["places_d", "frame", "counts", "firsts"]) fun _ _ _ _ _ _ us hl => match us, hl with | [_, _, _, _], _ => rfl
theorem b_l_counts {K : PySem.W.Frag} {mg : Str → Option Value} (T : TX K mg) : Binds K T.d_l_counts ["row", "frame"] [] := T.F_l_counts.binds (ps := ["row", "frame"]) fun _ _ _ _ _ _ us hl => match us, hl with | [_, _], _ => rfl
theorem b_l_draws {K : PySem.W.Frag} {mg : Str → Option Value} (T : TX K mg) : Binds K T.d_l_draws ["script", "k"] [] := T.F_l_draws.binds (ps := ["script", "k"]) fun _ _ _ _ _ _ us hl => match us, hl with | [_, _], _ => rfl
theorem b_l_common {K : PySem.W.Frag} {mg : Str → Option Value} (T : TX K mg) : Binds K T.d_l_common ["one", "other"] [] := T.F_l_common.binds (ps := ["one", "other"]) fun _ _ _ _ _ _ us hl => match us, hl with | [_, _], _ => rfl
theorem b_l_lengths {K : PySem.W.Frag} {mg : Str → Option Value} (T : TX K mg) : Binds K T.d_l_lengths ["draws", "places_d"] [] := T.F_l_lengths.binds (ps := ["draws", "places_d"]) fun _ _ _ _ _ _ us hl => match us, hl with | [_, _], _ => rfl
theorem b_l_signed {K : PySem.W.Frag} {mg : Str → Option Value} (T : TX K mg) : Binds K T.d_l_signed ["draws", "places_d"] [] := T.F_l_signed.binds (ps := ["draws", "places_d"]) fun _ _ _ _ _ _ us hl => match us, hl with | [_, _], _ => rfl
theorem b_l_kind_of {K : PySem.W.Frag} {mg : Str → Option Value} (T : TX K mg) : Binds K T.d_l_kind_of ["e"] [] := T.F_l_kind_of.binds (ps := ["e"]) fun _ _ _ _ _ _ us hl => match us, hl with | [_], _ => rfl
theorem b_l_refusal {K : PySem.W.Frag} {mg : Str → Option Value} (T : TX K mg) : Binds K T.d_l_refusal ["e"] [] := T.F_l_refusal.binds (ps := ["e"]) fun _ _ _ _ _ _ us hl => match us, hl with | [_], _ => rfl
theorem b_l_told {K : PySem.W.Frag} {mg : Str → Option Value} (T : TX K mg) : Binds K T.d_l_told ["deed"] [] := T.F_l_told.binds (ps := ["deed"]) fun _ _ _ _ _ _ us hl => match us, hl with | [_], _ => rfl
theorem b_l_moved {K : PySem.W.Frag} {mg : Str → Option Value} (T : TX K mg) : Binds K T.d_l_moved ["draws", "row", "by"] [] := T.F_l_moved.binds (ps := ["draws", "row", "by"]) fun _ _ _ _ _ _ us hl => match us, hl with | [_, _, _], _ => rfl
theorem b_l_bent {K : PySem.W.Frag} {mg : Str → Option Value} (T : TX K mg) : Binds K T.d_l_bent ["draws", "told_d"] [] := T.F_l_bent.binds (ps := ["draws", "told_d"]) fun _ _ _ _ _ _ us hl => match us, hl with | [_, _], _ => rfl
theorem b_l_told_so {K : PySem.W.Frag} {mg : Str → Option Value} (T : TX K mg) : Binds K T.d_l_told_so ["places_d", "told_d"] [] := T.F_l_told_so.binds (ps := ["places_d", "told_d"]) fun _ _ _ _ _ _ us hl => match us, hl with | [_, _], _ => rfl
theorem kb_weights_k0 {K : PySem.W.Frag} {mg : Str → Option Value} (T : TX K mg) : KBinds K T.d_weights ["places", "told"] ["told", "places"] (kgo 0 2 [1, 0]) (kgo 0 2 [1, 0]) := kb_of (ps := ["places", "told"]) (ks := ["told", "places"]) 0 2 [1, 0] T.F_weights (by decide) fun _ _ _ _ _ _ us ws h1 h2 => match us, ws, h1, h2 with | [], [_, _], _, _ => rfl
section
variable {P : Program} {w : World} {K : PySem.W.Frag} {mg : Str → Option Value} {base : Heap}
theorem ok_is_between (T : TX K mg) : FnOk P w K mg base CX0 1 T.f_is_between T.d_is_between ["thing", "low", "high"] (spP K F_is_between) := by
  refine okP (k := 0) (ps := ["thing", "low", "high"]) (n := 0) T.F_is_between sc_is_between rfl fun cdv A outer s H E hr => ⟨_, (pss_one (ps_ret (pe_and (pe_callB (call_isiK (K := K) rfl) (by rfl) T.b_isinstance (by decide +kernel) (pa_cons (pv 0) (pa_cons (pe_bltn (v := .ty "int") (by rfl) T.b_int (by decide +kernel) rfl) pa_nil))) (pe_and (pe_not (pe_callB (call_isiK (K := K) rfl) (by rfl) T.b_isinstance (by decide +kernel) (pa_cons (pv 0) (pa_cons (pe_bltn (v := .ty "bool") (by rfl) T.b_bool (by decide +kernel) rfl) pa_nil)))) (pe_one (pe_chain op_le op_le (pv 1) (pv 0) (pv 2))))))), ?_⟩
  exact (imp_ret (imp_andV (imp_isi (k := .int) (imp_v 0)) (imp_andV (imp_notV (imp_isi (k := .bool) (imp_v 0))) (imp_chain d_le d_le (imp_v 1) (imp_v 0) (imp_v 2)))))
theorem ok_common (T : TX K mg) : FnOk P w K mg base CX0 1 T.f_common T.d_common ["one", "other"] (spP K F_common) := by
  refine okP (k := 0) (ps := ["one", "other"]) (n := 0) T.F_common sc_common rfl fun cdv A outer s H E hr => ⟨_, (pss_cons (ps_while PassesOwn.never (pt_cmpR (op_neK (K := K) rfl hr.units) (pv 1) pe_int (nomark _)) (pss_one (ps_par (i := 0) (j := 1) (by rfl) sc_common.nd rfl rfl (by decide) rfl rfl (pa_cons (pv 1) (pa_cons (pe_op op_modN (pv 0) (pv 1)) pa_nil)) (by rfl))))
 (pss_one (ps_ret (pe_callB call_abs (by rfl) T.b_abs (by decide +kernel) (pa_cons (pv 0) pa_nil))))), ?_⟩
  exact (imp_seq (imp_while 100 (imp_test (imp_op d_ne (imp_v 1) imp_int)) (imp_many2 (imp_avP (imp_v 1) (imp_avP (imp_op d_modN (imp_v 0) (imp_v 1)) imp_avNil))))
 (imp_ret (imp_cb d_abs (imp_cons (imp_v 0) imp_nil))))
theorem ok_need_long (T : TX K mg) : FnOk P w K mg base CX0 2 T.f_need_long T.d_need_long ["places", "told"] (spP K F_need_long) := by
  refine okP (k := 1) (ps := ["places", "told"]) (n := 2) T.F_need_long sc_need_long rfl fun cdv A outer s H E hr => ⟨_, (pss_one (ps_if (pt_cmpR op_gt (pe_callB (call_lenK (K := K) rfl) (by rfl) T.b_len (by decide +kernel) (pa_cons (pv 1) pa_nil)) pe_int (nomark _)) (pss_cons (ps_par (i := 2) (j := 3) (by rfl) sc_need_long.nd rfl rfl (by decide) rfl rfl (pa_cons (pe_ix (ix_K (K := K) rfl) (pe_ix (ix_K (K := K) rfl) (pv 1) (pe_un un_neg pe_int) (fun _ _ => rfl)) pe_int (fun _ _ => rfl)) (pa_cons (pe_ix (ix_K (K := K) rfl) (pe_ix (ix_K (K := K) rfl) (pv 1) (pe_un un_neg pe_int) (fun _ _ => rfl)) pe_int (fun _ _ => rfl)) pa_nil)) (by rfl))
 (pss_one (ps_if (pt_cmpR op_lt (pv 0) (pe_op op_sub (pe_op (op_addK (K := K) rfl) (pv 2) (pv 3)) (pe_call (ok_common T) (hr.mono (by decide)) (by rfl) T.g_common T.F_common.kp (b_common T) .nil pass0 (pa_cons (pv 2) (pa_cons (pv 3) pa_nil)))) (nomark _)) (pss_one ps_never) pss_nil))) pss_nil)), ?_⟩
  exact (imp_if (imp_test (imp_op d_gt (imp_cb d_len (imp_cons (imp_v 1) imp_nil)) imp_int))
 (imp_then [2, 3] (imp_seq (imp_many2 (imp_avP (imp_op d_ix (imp_op d_ix (imp_v 1) (imp_un d_neg imp_int)) imp_int) (imp_avP (imp_op d_ix (imp_op d_ix (imp_v 1) (imp_un d_neg imp_int)) imp_int) imp_avNil)))
 (imp_if (imp_test (imp_op d_lt (imp_v 0) (imp_op d_sub (imp_op d_add (imp_v 2) (imp_v 3)) (imp_call (F := F_common) (imp_cons (imp_v 2) (imp_cons (imp_v 3) imp_nil))))))
 (imp_never fun _ _ => rfl)
 imp_next)))
 imp_next)
theorem ok_ties (T : TX K mg) : FnOk P w K mg base CX0 1 T.f_ties T.d_ties ["places", "told"] (spP K F_ties) := by
  refine okP (k := 0) (ps := ["places", "told"]) (n := 11) T.F_ties sc_ties rfl fun cdv A outer s H E hr => ⟨_, (pss_cons (ps_setLc (i := 2) (own := [("place", 12)]) (by rfl) sc_ties.nd rfl rfl (sw_true rfl rfl rfl (by decide +kernel)) (pi_range1 (by rfl) T.b_range (pa_cons (pv 0) pa_nil)) (blkOk_by (own := [("place", 12)]) (N := N_ties) (sc := defScope s_ties) (by decide +kernel)) (fun _ _ _ _ _ => (pg_name (i := 12) sc_ties.nd rfl (by first | exact Or.inl rfl | exact Or.inr rfl))) (fun _ _ _ _ _ => pts_nil) (fun _ _ _ _ _ => (pe_lst pa_nil)))
 (pss_cons (ps_for PassesOwn.never rfl (pi_tupleK (K := K) rfl (pv 1)) (pg_tupK (K := K) (n := 2) rfl (by rfl) (pgs_cons (pg_name (i := 3) sc_ties.nd rfl (by first | exact Or.inl rfl | exact Or.inr rfl)) (pgs_cons (pg_name (i := 4) sc_ties.nd rfl (by first | exact Or.inl rfl | exact Or.inr rfl)) pgs_nil))) (pss_one (ps_for PassesOwn.never rfl (pi_range1 (by rfl) T.b_range (pa_cons (pe_op op_sub (pv 0) (pv 3)) pa_nil)) (pg_name (i := 5) sc_ties.nd rfl (by first | exact Or.inl rfl | exact Or.inr rfl)) (pss_cons (ps_set (i := 6) sc_ties.nd rfl (by first | exact Or.inl rfl | exact Or.inr rfl) (pe_op op_sub (pe_ix (ix_K (K := K) rfl) (pv 4) (pe_op (op_addK (K := K) rfl) (pv 5) pe_int) (fun _ _ => rfl)) (pe_ix (ix_K (K := K) rfl) (pv 4) (pv 5) (fun _ _ => rfl))))
 (pss_cons (ps_expr (pe_bm PySem.F.plainAttrs_list PySem.F.slot_list_append PySem.F.type_list_append mt_append (pe_ix (ix_K (K := K) rfl) (pv 2) (pv 5) (fun _ _ => rfl)) (pa_cons (pe_tup (pa_cons (pe_op (op_addK (K := K) rfl) (pv 5) (pv 3)) (pa_cons (pv 6) pa_nil))) pa_nil)))
 (pss_one (ps_expr (pe_bm PySem.F.plainAttrs_list PySem.F.slot_list_append PySem.F.type_list_append mt_append (pe_ix (ix_K (K := K) rfl) (pv 2) (pe_op (op_addK (K := K) rfl) (pv 5) (pv 3)) (fun _ _ => rfl)) (pa_cons (pe_tup (pa_cons (pv 5) (pa_cons (pe_op op_sub pe_int (pv 6)) pa_nil))) pa_nil)))))))))
 (pss_cons (ps_set (i := 7) sc_ties.nd rfl (by first | exact Or.inl rfl | exact Or.inr rfl) (pe_op (op_mulK (K := K) rfl) (pe_lst (pa_cons pe_non pa_nil)) (pv 0)))
 (pss_cons (ps_for PassesOwn.never rfl (pi_range1 (by rfl) T.b_range (pa_cons (pv 0) pa_nil)) (pg_name (i := 8) sc_ties.nd rfl (by first | exact Or.inl rfl | exact Or.inr rfl)) (pss_one (ps_if (pt_cmpR op_isN (pe_ix (ix_K (K := K) rfl) (pv 7) (pv 8) (fun _ _ => rfl)) pe_non (nomark _)) (pss_cons (ps_asg pe_int (pg_sub (pv 7) (pv 8) set_list))
 (pss_cons (ps_set (i := 9) sc_ties.nd rfl (by first | exact Or.inl rfl | exact Or.inr rfl) (pe_lst (pa_cons (pv 8) pa_nil)))
 (pss_one (ps_while PassesOwn.never (pt_cmpR (op_neK (K := K) rfl hr.units) (pv 9) (pe_lst pa_nil) (nomark _)) (pss_cons (ps_set (i := 10) sc_ties.nd rfl (by first | exact Or.inl rfl | exact Or.inr rfl) (pe_bm0 PySem.F.plainAttrs_list PySem.F.slot_list_pop PySem.F.type_list_pop mt_pop (pv 9)))
 (pss_one (ps_for PassesOwn.never rfl (pi_listK (K := K) rfl (pe_ix (ix_K (K := K) rfl) (pv 2) (pv 10) (fun _ _ => rfl))) (pg_tupK (K := K) (n := 2) rfl (by rfl) (pgs_cons (pg_name (i := 11) sc_ties.nd rfl (by first | exact Or.inl rfl | exact Or.inr rfl)) (pgs_cons (pg_name (i := 6) sc_ties.nd rfl (by first | exact Or.inl rfl | exact Or.inr rfl)) pgs_nil))) (pss_one (ps_if (pt_cmpR op_isN (pe_ix (ix_K (K := K) rfl) (pv 7) (pv 11) (fun _ _ => rfl)) pe_non (nomark _)) (pss_cons (ps_asg (pe_op (op_addK (K := K) rfl) (pe_ix (ix_K (K := K) rfl) (pv 7) (pv 10) (fun _ _ => rfl)) (pv 6)) (pg_sub (pv 7) (pv 11) set_list))
 (pss_one (ps_expr (pe_bm PySem.F.plainAttrs_list PySem.F.slot_list_append PySem.F.type_list_append mt_append (pv 9) (pa_cons (pv 11) pa_nil))))) (pss_one (ps_if (pt_cmpR (op_neK (K := K) rfl hr.units) (pe_ix (ix_K (K := K) rfl) (pv 7) (pv 11) (fun _ _ => rfl)) (pe_op (op_addK (K := K) rfl) (pe_ix (ix_K (K := K) rfl) (pv 7) (pv 10) (fun _ _ => rfl)) (pv 6)) (nomark _)) (pss_one (ps_ret pe_non)) pss_nil))))))))))) pss_nil)))
 (pss_one (ps_ret (pv 7))))))), ?_⟩
  exact (imp_near (i := 2) (p := 12) (imp_cons (imp_v 0) imp_nil)
 (imp_nFor (vs := [3, 4]) (imp_iT (imp_v 1)) (imp_gTup (imp_gCons (imp_gN 3) (imp_gCons (imp_gN 4) imp_gNil)) (qCons_len (qCons_len qNil_len))) (only_tup (only_cons (only_N (by decide)) (only_cons (only_N (by decide)) only_nil mono_N mono_nil) mono_N (mono_cons mono_N mono_nil))) (mono_tup (mono_cons mono_N (mono_cons mono_N mono_nil))) (by decide) (hu_tup (hu_cons (hu_N (by decide)) (hu_cons (hu_N (by decide)) hu_nil))) (imp_nThen [3, 4] (imp_nFor (vs := [5]) (imp_r1 (imp_cons (imp_op d_sub (imp_v 0) (imp_v 3)) imp_nil)) (imp_gN 5) (only_N (by decide)) mono_N (by decide) (hu_N (by decide)) (imp_nThen [5, 6] (imp_nSeq (imp_nAsg (j := 6) (imp_op d_sub (imp_op d_ix (imp_v 4) (imp_op d_add (imp_v 5) imp_int)) (imp_op d_ix (imp_v 4) (imp_v 5))))
 (imp_nSeq (imp_nApp (imp_v 5) (imp_tup (imp_cons (imp_op d_add (imp_v 5) (imp_v 3)) (imp_cons (imp_v 6) imp_nil))))
 (imp_nApp (imp_op d_add (imp_v 5) (imp_v 3)) (imp_tup (imp_cons (imp_v 5) (imp_cons (imp_op d_sub imp_int (imp_v 6)) imp_nil))))))))))
 (imp_seq (imp_asgL 7 (imp_repL (imp_dispL (imp_cons imp_non imp_nil)) (imp_v 0)))
 (imp_seq (imp_for (imp_r1 (imp_cons (imp_v 0) imp_nil)) (imp_gN 8)
 (imp_then [8] (imp_if (imp_test (imp_op d_isN (imp_ixO (i := 7) (imp_v 8)) imp_non))
 (imp_then [9] (imp_seq (imp_setI (i := 7) (imp_v 8) imp_int)
 (imp_seq (imp_asgL 9 (imp_dispL (imp_cons (imp_v 8) imp_nil)))
 (imp_while 100 (imp_flT 9 (imp_test (imp_op d_ne (imp_v 9) (imp_lst imp_nil)))) (imp_then [10] (imp_seq imp_popTo
 (imp_for (imp_iL (imp_op d_ix (imp_v 2) (imp_v 10))) (imp_gTup (imp_gCons (imp_gN 11) (imp_gCons (imp_gN 6) imp_gNil)) (qCons_len (qCons_len qNil_len)))
 (imp_then [6, 11] (imp_if (imp_test (imp_op d_isN (imp_ixO (i := 7) (imp_v 11)) imp_non))
 (imp_seq (imp_setI (i := 7) (imp_v 11) (imp_op d_add (imp_ixO (i := 7) (imp_v 10)) (imp_v 6)))
 (imp_app (i := 9) (imp_v 11)))
 (imp_if (imp_test (imp_op d_ne (imp_ixO (i := 7) (imp_v 11)) (imp_op d_add (imp_ixO (i := 7) (imp_v 10)) (imp_v 6))))
 (imp_ret imp_non)
 imp_next))))))))))
 imp_next)))
 (imp_frz 7 (imp_ret (imp_v 7))))))
theorem ok_as_one (T : TX K mg) : FnOk P w K mg base CX0 3 T.f_as_one T.d_as_one ["places", "told"] (spP K F_as_one) := by
  refine okP (k := 2) (ps := ["places", "told"]) (n := 8) T.F_as_one sc_as_one rfl fun cdv A outer s H E hr => ⟨_, (pss_cons (ps_expr (pe_call (ok_need_long T) (hr.mono (by decide)) (by rfl) T.g_need_long T.F_need_long.kp (b_need_long T) .nil pass0 (pa_cons (pv 0) (pa_cons (pv 1) pa_nil))))
 (pss_cons (ps_set (i := 2) sc_as_one.nd rfl (by first | exact Or.inl rfl | exact Or.inr rfl) (pe_ix (ix_K (K := K) rfl) (pe_ix (ix_K (K := K) rfl) (pv 1) pe_int (fun _ _ => rfl)) pe_int (fun _ _ => rfl)))
 (pss_cons (ps_for PassesOwn.never rfl (pi_tupleK (K := K) rfl (pv 1)) (pg_tupK (K := K) (n := 2) rfl (by rfl) (pgs_cons (pg_name (i := 3) sc_as_one.nd rfl (by first | exact Or.inl rfl | exact Or.inr rfl)) (pgs_cons (pg_name (i := 4) sc_as_one.nd rfl (by first | exact Or.inl rfl | exact Or.inr rfl)) pgs_nil))) (pss_one (ps_set (i := 2) sc_as_one.nd rfl (by first | exact Or.inl rfl | exact Or.inr rfl) (pe_call (ok_common T) (hr.mono (by decide)) (by rfl) T.g_common T.F_common.kp (b_common T) .nil pass0 (pa_cons (pv 2) (pa_cons (pv 3) pa_nil))))))
 (pss_cons (ps_set (i := 5) sc_as_one.nd rfl (by first | exact Or.inl rfl | exact Or.inr rfl) (pe_call (ok_ties T) (hr.mono (by decide)) (by rfl) T.g_ties T.F_ties.kp (b_ties T) .nil pass0 (pa_cons (pv 0) (pa_cons (pv 1) pa_nil))))
 (pss_cons (ps_if (pt_cmpR op_isN (pv 5) pe_non (nomark _)) (pss_one (ps_ret pe_non)) pss_nil)
 (pss_cons (ps_set (i := 6) sc_as_one.nd rfl (by first | exact Or.inl rfl | exact Or.inr rfl) pe_dnewK)
 (pss_cons (ps_for PassesOwn.never rfl (pi_tupleK (K := K) rfl (pv 1)) (pg_tupK (K := K) (n := 2) rfl (by rfl) (pgs_cons (pg_name (i := 3) sc_as_one.nd rfl (by first | exact Or.inl rfl | exact Or.inr rfl)) (pgs_cons (pg_name (i := 4) sc_as_one.nd rfl (by first | exact Or.inl rfl | exact Or.inr rfl)) pgs_nil))) (pss_cons (ps_set (i := 7) sc_as_one.nd rfl (by first | exact Or.inl rfl | exact Or.inr rfl) (pe_op op_sub (pe_ix (ix_K (K := K) rfl) (pv 4) pe_int (fun _ _ => rfl)) (pe_callB (cr_sumA (K := K) rfl rfl) (by rfl) T.b_sum (by decide +kernel) (pa_cons (pe_slice (sl_K (K := K) rfl) (pv 5) po_none (po_some (pv 3))) pa_nil))))
 (pss_cons (ps_if (pt_cmpR (op_neK (K := K) rfl hr.units) (pe_op op_mod (pv 7) (pe_op op_fdiv (pv 3) (pv 2))) pe_int (nomark _)) (pss_one (ps_ret pe_non)) pss_nil)
 (pss_one (ps_dput (hu_of hr) (pv 6) (pe_op op_fdiv (pv 7) (pe_op op_fdiv (pv 3) (pv 2))) pe_bl rfl)))))
 (pss_cons (ps_if (pt_cmpR op_gt (pe_callB call_lenD (by rfl) T.b_len (by decide +kernel) (pa_cons (pv 6) pa_nil)) pe_int (nomark _)) (pss_one (ps_ret pe_non)) pss_nil)
 (pss_cons (ps_set (i := 8) sc_as_one.nd rfl (by first | exact Or.inl rfl | exact Or.inr rfl) (pe_lst (pa_cons (pe_op (op_addK (K := K) rfl) (pe_callB (call_minD rfl) (by rfl) T.b_min (by decide +kernel) (pa_cons (pv 6) pa_nil)) (pe_callB (cr_sumA (K := K) rfl rfl) (by rfl) T.b_sum (by decide +kernel) (pa_cons (pe_slice (sl_K (K := K) rfl) (pv 5) po_none (po_some (pv 2))) pa_nil))) pa_nil)))
 (pss_cons (ps_for PassesOwn.never rfl (pi_range1 (by rfl) T.b_range (pa_cons (pe_op op_sub (pv 0) (pv 2)) pa_nil)) (pg_name (i := 9) sc_as_one.nd rfl (by first | exact Or.inl rfl | exact Or.inr rfl)) (pss_one (ps_expr (pe_bm PySem.F.plainAttrs_list PySem.F.slot_list_append PySem.F.type_list_append mt_append (pv 8) (pa_cons (pe_op op_sub (pe_op (op_addK (K := K) rfl) (pe_ix (ix_K (K := K) rfl) (pv 8) (pe_un un_neg pe_int) (fun _ _ => rfl)) (pe_ix (ix_K (K := K) rfl) (pv 5) (pe_op (op_addK (K := K) rfl) (pv 9) (pv 2)) (fun _ _ => rfl))) (pe_ix (ix_K (K := K) rfl) (pv 5) (pv 9) (fun _ _ => rfl))) pa_nil)))))
 (pss_one (ps_ret (pe_tup (pa_cons (pv 2) (pa_cons (pe_callTy (call_tupleK (K := K) rfl) (by rfl) T.b_tuple (by decide +kernel) (pa_cons (pv 8) pa_nil)) pa_nil))))))))))))))), ?_⟩
  exact (imp_seq (imp_drop (imp_call (F := F_need_long) (imp_cons (imp_v 0) (imp_cons (imp_v 1) imp_nil))))
 (imp_seq (imp_asg (imp_op d_ix (imp_op d_ix (imp_v 1) imp_int) imp_int) (imp_gN 2))
 (imp_seq (imp_for (imp_iT (imp_v 1)) (imp_gTup (imp_gCons (imp_gN 3) (imp_gCons (imp_gN 4) imp_gNil)) (qCons_len (qCons_len qNil_len)))
 (imp_then [3, 4] (imp_asg (imp_call (F := F_common) (imp_cons (imp_v 2) (imp_cons (imp_v 3) imp_nil))) (imp_gN 2))))
 (imp_seq (imp_asg (imp_call (F := F_ties) (imp_cons (imp_v 0) (imp_cons (imp_v 1) imp_nil))) (imp_gN 5))
 (imp_seq (imp_if (imp_test (imp_op d_isN (imp_v 5) imp_non))
 (imp_ret imp_non)
 imp_next)
 (imp_seq (imp_dnew (i := 6))
 (imp_seq (imp_for (imp_iT (imp_v 1)) (imp_gTup (imp_gCons (imp_gN 3) (imp_gCons (imp_gN 4) imp_gNil)) (qCons_len (qCons_len qNil_len)))
 (imp_then [3, 4, 7] (imp_seq (imp_asg (imp_op d_sub (imp_op d_ix (imp_v 4) imp_int) (imp_cb d_sumA (imp_cons (imp_sl d_sl (imp_v 5) imp_noP (imp_p (imp_v 3))) imp_nil))) (imp_gN 7))
 (imp_seq (imp_if (imp_test (imp_op d_ne (imp_op d_mod (imp_v 7) (imp_op d_fdiv (imp_v 3) (imp_v 2))) imp_int))
 (imp_ret imp_non)
 imp_next)
 (imp_dput (i := 6) (imp_op d_fdiv (imp_v 7) (imp_op d_fdiv (imp_v 3) (imp_v 2))) imp_bl)))))
 (imp_seq (imp_if (imp_test (imp_op d_gt (imp_dlen (i := 6)) imp_int))
 (imp_ret imp_non)
 imp_next)
 (imp_seq (imp_asgL 8 (imp_dispL (imp_cons (imp_op d_add (imp_dmin (i := 6)) (imp_cb d_sumA (imp_cons (imp_sl d_sl (imp_v 5) imp_noP (imp_p (imp_v 2))) imp_nil))) imp_nil)))
 (imp_seq (imp_for (imp_r1 (imp_cons (imp_op d_sub (imp_v 0) (imp_v 2)) imp_nil)) (imp_gN 9)
 (imp_then [9] (imp_app (i := 8) (imp_op d_sub (imp_op d_add (imp_ixO (i := 8) (imp_un d_neg imp_int)) (imp_op d_ix (imp_v 5) (imp_op d_add (imp_v 9) (imp_v 2)))) (imp_op d_ix (imp_v 5) (imp_v 9))))))
 (imp_frz 8 (imp_ret (imp_tup (imp_cons (imp_v 2) (imp_cons (imp_cb d_tuple (imp_cons (imp_v 8) imp_nil)) imp_nil)))))))))))))))
theorem ok_all_stands (T : TX K mg) : FnOk P w K mg base CX0 1 T.f_all_stands T.d_all_stands ["places", "told"] (spP K F_all_stands) := by
  refine okP (k := 0) (ps := ["places", "told"]) (n := 10) T.F_all_stands sc_all_stands rfl fun cdv A outer s H E hr => ⟨_, (pss_cons (ps_set (i := 2) sc_all_stands.nd rfl (by first | exact Or.inl rfl | exact Or.inr rfl) (pe_callB (cr_sumA (K := K) rfl rfl) (by rfl) T.b_sum (by decide +kernel) (pa_cons (pe_lc (own := [("frame", 4), ("counts", 5)]) (by rfl) sc_all_stands.nd (pi_tupleK (K := K) rfl (pv 1)) (blkOk_by (own := [("frame", 4), ("counts", 5)]) (N := N_all_stands) (sc := defScope s_all_stands) (by decide +kernel)) (fun _ _ _ _ _ => (pg_tupK (K := K) (n := 2) rfl (by rfl) (pgs_cons (pg_name (i := 4) sc_all_stands.nd rfl (by first | exact Or.inl rfl | exact Or.inr rfl)) (pgs_cons (pg_name (i := 5) sc_all_stands.nd rfl (by first | exact Or.inl rfl | exact Or.inr rfl)) pgs_nil)))) (fun _ _ _ _ _ => pts_nil) (fun _ _ _ _ _ => (pe_callB (call_lenK (K := K) rfl) (by rfl) T.b_len (by decide +kernel) (pa_cons (pv 5) pa_nil)))) pa_nil)))
 (pss_cons (ps_set (i := 3) sc_all_stands.nd rfl (by first | exact Or.inl rfl | exact Or.inr rfl) (pe_lst pa_nil))
 (pss_cons (ps_for PassesOwn.never rfl (pi_tupleK (K := K) rfl (pv 1)) (pg_tupK (K := K) (n := 2) rfl (by rfl) (pgs_cons (pg_name (i := 4) sc_all_stands.nd rfl (by first | exact Or.inl rfl | exact Or.inr rfl)) (pgs_cons (pg_name (i := 5) sc_all_stands.nd rfl (by first | exact Or.inl rfl | exact Or.inr rfl)) pgs_nil))) (pss_one (ps_for PassesOwn.never rfl (pi_enumK (by rfl) T.b_enumerate (pa_cons (pv 5) pa_nil)) (pg_tupK (K := K) (n := 2) rfl (by rfl) (pgs_cons (pg_name (i := 6) sc_all_stands.nd rfl (by first | exact Or.inl rfl | exact Or.inr rfl)) (pgs_cons (pg_name (i := 7) sc_all_stands.nd rfl (by first | exact Or.inl rfl | exact Or.inr rfl)) pgs_nil))) (pss_cons (ps_set (i := 8) sc_all_stands.nd rfl (by first | exact Or.inl rfl | exact Or.inr rfl) (pe_callB (call_lenK (K := K) rfl) (by rfl) T.b_len (by decide +kernel) (pa_cons (pv 3) pa_nil)))
 (pss_cons (ps_setLc (i := 9) (own := [("place", 10)]) (by rfl) sc_all_stands.nd rfl rfl (sw_true rfl rfl rfl (by decide +kernel)) (pi_range1 (by rfl) T.b_range (pa_cons (pv 0) pa_nil)) (blkOk_by (own := [("place", 10)]) (N := N_all_stands) (sc := defScope s_all_stands) (by decide +kernel)) (fun _ _ _ _ _ => (pg_name (i := 10) sc_all_stands.nd rfl (by first | exact Or.inl rfl | exact Or.inr rfl))) (fun _ _ _ _ _ => pts_nil) (fun _ _ _ _ _ => (pe_callTy call_int1 (by rfl) T.b_int (by decide +kernel) (pa_cons (pe_chain op_le op_lt (pv 6) (pv 10) (pe_op (op_addK (K := K) rfl) (pv 6) (pv 4))) pa_nil))))
 (pss_one (ps_expr (pe_bm PySem.F.plainAttrs_list PySem.F.slot_list_append PySem.F.type_list_append mt_append (pv 3) (pa_cons (pe_op (op_addK (K := K) rfl) (pe_op (op_addK (K := K) rfl) (pv 9) (pe_lst (pa_cons (pv 7) pa_nil))) (pe_lc (own := [("number", 11)]) (by rfl) sc_all_stands.nd (pi_range1 (by rfl) T.b_range (pa_cons (pv 2) pa_nil)) (blkOk_by (own := [("number", 11)]) (N := N_all_stands) (sc := defScope s_all_stands) (by decide +kernel)) (fun _ _ _ _ _ => (pg_name (i := 11) sc_all_stands.nd rfl (by first | exact Or.inl rfl | exact Or.inr rfl))) (fun _ _ _ _ _ => pts_nil) (fun _ _ _ _ _ => (pe_callTy call_int1 (by rfl) T.b_int (by decide +kernel) (pa_cons (pe_cmpR (op_eqK (K := K) rfl hr.units) (pv 11) (pv 8) (nomark _)) pa_nil))))) pa_nil)))))))))
 (pss_one (ps_ret (pv 3)))))), ?_⟩
  exact (imp_seq (imp_asg (imp_cb d_sumA (imp_cons (imp_ofL (imp_lc (vs := [4, 5]) (imp_iT (imp_v 1)) (imp_gTup (imp_gCons (imp_gN 4) (imp_gCons (imp_gN 5) imp_gNil)) (qCons_len (qCons_len qNil_len))) (only_tup (only_cons (only_N (by decide)) (only_cons (only_N (by decide)) only_nil mono_N mono_nil) mono_N (mono_cons mono_N mono_nil))) (mono_tup (mono_cons mono_N (mono_cons mono_N mono_nil))) imp_yes (imp_cb d_len (imp_cons (imp_v 5) imp_nil)))) imp_nil)) (imp_gN 2))
 (imp_seq (imp_asgL 3 (imp_dispL imp_nil))
 (imp_seq (imp_for (imp_iT (imp_v 1)) (imp_gTup (imp_gCons (imp_gN 4) (imp_gCons (imp_gN 5) imp_gNil)) (qCons_len (qCons_len qNil_len)))
 (imp_then [4, 5] (imp_for (imp_enum (imp_v 5)) (imp_gTup (imp_gCons (imp_gN 6) (imp_gCons (imp_gN 7) imp_gNil)) (qCons_len (qCons_len qNil_len)))
 (imp_then [6, 7, 8, 9] (imp_seq (imp_asg (imp_fl 3 (imp_cb d_len (imp_cons (imp_v 3) imp_nil))) (imp_gN 8))
 (imp_seq (imp_asg (imp_ofL (imp_lc (vs := [10]) (imp_r1 (imp_cons (imp_v 0) imp_nil)) (imp_gN 10) (only_N (by decide)) mono_N imp_yes (imp_cb d_int (imp_cons (imp_chain d_le d_lt (imp_v 6) (imp_v 10) (imp_op d_add (imp_v 6) (imp_v 4))) imp_nil)))) (imp_gN 9))
 (imp_app (i := 3) (imp_op d_add (imp_op d_add (imp_v 9) (imp_lst (imp_cons (imp_v 7) imp_nil))) (imp_ofL (imp_lc (vs := [11]) (imp_r1 (imp_cons (imp_v 2) imp_nil)) (imp_gN 11) (only_N (by decide)) mono_N imp_yes (imp_cb d_int (imp_cons (imp_op d_eq (imp_v 11) (imp_v 8)) imp_nil))))))))))))
 (imp_frz 3 (imp_ret (imp_v 3))))))
theorem ok_lessened (T : TX K mg) : FnOk P w K mg base CX0 2 T.f_lessened T.d_lessened ["row"] (spP K F_lessened) := by
  refine okP (k := 1) (ps := ["row"]) (n := 2) T.F_lessened sc_lessened rfl fun cdv A outer s H E hr => ⟨_, (pss_cons (ps_set (i := 1) sc_lessened.nd rfl (by first | exact Or.inl rfl | exact Or.inr rfl) pe_int)
 (pss_cons (ps_for PassesOwn.never rfl (pi_listK (K := K) rfl (pv 0)) (pg_name (i := 2) sc_lessened.nd rfl (by first | exact Or.inl rfl | exact Or.inr rfl)) (pss_one (ps_set (i := 1) sc_lessened.nd rfl (by first | exact Or.inl rfl | exact Or.inr rfl) (pe_call (ok_common T) (hr.mono (by decide)) (by rfl) T.g_common T.F_common.kp (b_common T) .nil pass0 (pa_cons (pv 1) (pa_cons (pv 2) pa_nil))))))
 (pss_one (ps_ret (pe_ifExp (pt_cmpR op_gt (pv 1) pe_int (nomark _)) (pe_lc (own := [("one", 2)]) (by rfl) sc_lessened.nd (pi_listK (K := K) rfl (pv 0)) (blkOk_by (own := [("one", 2)]) (N := N_lessened) (sc := defScope s_lessened) (by decide +kernel)) (fun _ _ _ _ _ => (pg_name (i := 2) sc_lessened.nd rfl (by first | exact Or.inl rfl | exact Or.inr rfl))) (fun _ _ _ _ _ => pts_nil) (fun _ _ _ _ _ => (pe_op op_fdiv (pv 2) (pv 1)))) (pv 0)))))), ?_⟩
  exact (imp_seq (imp_asg imp_int (imp_gN 1))
 (imp_seq (imp_for (imp_iL (imp_v 0)) (imp_gN 2)
 (imp_then [2] (imp_asg (imp_call (F := F_common) (imp_cons (imp_v 1) (imp_cons (imp_v 2) imp_nil))) (imp_gN 1))))
 (imp_ret (imp_ifE (imp_test (imp_op d_gt (imp_v 1) imp_int)) (imp_ofL (imp_lc (vs := [2]) (imp_iL (imp_v 0)) (imp_gN 2) (only_N (by decide)) mono_N imp_yes (imp_op d_fdiv (imp_v 2) (imp_v 1)))) (imp_v 0)))))
theorem ok_without (T : TX K mg) : FnOk P w K mg base CX0 3 T.f_without T.d_without ["row", "other", "place"] (spP K F_without) := by
  refine okP (k := 2) (ps := ["row", "other", "place"]) (n := 2) T.F_without sc_without rfl fun cdv A outer s H E hr => ⟨_, (pss_one (ps_ret (pe_call (ok_lessened T) (hr.mono (by decide)) (by rfl) T.g_lessened T.F_lessened.kp (b_lessened T) .nil pass0 (pa_cons (pe_lc (own := [("one", 3), ("two", 4)]) (by rfl) sc_without.nd (pi_zipK (by rfl) T.b_zip (pa_cons (pv 0) (pa_cons (pv 1) pa_nil))) (blkOk_by (own := [("one", 3), ("two", 4)]) (N := N_without) (sc := defScope s_without) (by decide +kernel)) (fun _ _ _ _ _ => (pg_tupK (K := K) (n := 2) rfl (by rfl) (pgs_cons (pg_name (i := 3) sc_without.nd rfl (by first | exact Or.inl rfl | exact Or.inr rfl)) (pgs_cons (pg_name (i := 4) sc_without.nd rfl (by first | exact Or.inl rfl | exact Or.inr rfl)) pgs_nil)))) (fun _ _ _ _ _ => pts_nil) (fun _ _ _ _ _ => (pe_op op_sub (pe_op (op_mulK (K := K) rfl) (pv 3) (pe_ix (ix_K (K := K) rfl) (pv 1) (pv 2) (fun _ _ => rfl))) (pe_op (op_mulK (K := K) rfl) (pv 4) (pe_ix (ix_K (K := K) rfl) (pv 0) (pv 2) (fun _ _ => rfl)))))) pa_nil)))), ?_⟩
  exact (imp_ret (imp_call (F := F_lessened) (imp_cons (imp_ofL (imp_lc (vs := [3, 4]) (imp_zip (imp_v 0) (imp_v 1)) (imp_gTup (imp_gCons (imp_gN 3) (imp_gCons (imp_gN 4) imp_gNil)) (qCons_len (qCons_len qNil_len))) (only_tup (only_cons (only_N (by decide)) (only_cons (only_N (by decide)) only_nil mono_N mono_nil) mono_N (mono_cons mono_N mono_nil))) (mono_tup (mono_cons mono_N (mono_cons mono_N mono_nil))) imp_yes (imp_op d_sub (imp_op d_mul (imp_v 3) (imp_op d_ix (imp_v 1) (imp_v 2))) (imp_op d_mul (imp_v 4) (imp_op d_ix (imp_v 0) (imp_v 2)))))) imp_nil)))
theorem ok_weights (T : TX K mg) : FnOk P w K mg base CX0 4 T.f_weights T.d_weights ["places", "told"] (spP K F_weights) := by
  refine okP (k := 3) (ps := ["places", "told"]) (n := 10) T.F_weights sc_weights rfl fun cdv A outer s H E hr => ⟨_, (pss_cons (ps_expr (pe_call (ok_need_long T) (hr.mono (by decide)) (by rfl) T.g_need_long T.F_need_long.kp (b_need_long T) .nil pass0 (pa_cons (pv 0) (pa_cons (pv 1) pa_nil))))
 (pss_cons (ps_set (i := 2) sc_weights.nd rfl (by first | exact Or.inl rfl | exact Or.inr rfl) (pe_call (ok_all_stands T) (hr.mono (by decide)) (by rfl) T.g_all_stands T.F_all_stands.kp (b_all_stands T) .nil pass0 (pa_cons (pv 0) (pa_cons (pv 1) pa_nil))))
 (pss_cons (ps_for PassesOwn.never rfl (pi_range1 (by rfl) T.b_range (pa_cons (pv 0) pa_nil)) (pg_name (i := 3) sc_weights.nd rfl (by first | exact Or.inl rfl | exact Or.inr rfl)) (pss_cons (ps_set (i := 4) sc_weights.nd rfl (by first | exact Or.inl rfl | exact Or.inr rfl) (pe_lc (own := [("row", 11)]) (by rfl) sc_weights.nd (pi_listK (K := K) rfl (pv 2)) (blkOk_by (own := [("row", 11)]) (N := N_weights) (sc := defScope s_weights) (by decide +kernel)) (fun _ _ _ _ _ => (pg_name (i := 11) sc_weights.nd rfl (by first | exact Or.inl rfl | exact Or.inr rfl))) (fun _ _ _ _ _ => (pts_one (pt_cmpR (op_neK (K := K) rfl hr.units) (pe_ix (ix_K (K := K) rfl) (pv 11) (pv 3) (fun _ _ => rfl)) pe_int (nomark _)))) (fun _ _ _ _ _ => (pv 11))))
 (pss_one (ps_if (pt_cmpR (op_neK (K := K) rfl hr.units) (pv 4) (pe_lst pa_nil) (nomark _)) (pss_cons (ps_setLc (i := 5) (own := [("row", 11)]) (by rfl) sc_weights.nd rfl rfl (sw_true rfl rfl rfl (by decide +kernel)) (pi_listK (K := K) rfl (pv 2)) (blkOk_by (own := [("row", 11)]) (N := N_weights) (sc := defScope s_weights) (by decide +kernel)) (fun _ _ _ _ _ => (pg_name (i := 11) sc_weights.nd rfl (by first | exact Or.inl rfl | exact Or.inr rfl))) (fun _ _ _ _ _ => (pts_one (pt_cmpR (op_eqK (K := K) rfl hr.units) (pe_ix (ix_K (K := K) rfl) (pv 11) (pv 3) (fun _ _ => rfl)) pe_int (nomark _)))) (fun _ _ _ _ _ => (pv 11)))
 (pss_one (ps_set (i := 2) sc_weights.nd rfl (by first | exact Or.inl rfl | exact Or.inr rfl) (pe_op (op_addK (K := K) rfl) (pv 5) (pe_lc (own := [("row", 11)]) (by rfl) sc_weights.nd (pi_listK (K := K) rfl (pe_slice (sl_K (K := K) rfl) (pv 4) (po_some pe_int) po_none)) (blkOk_by (own := [("row", 11)]) (N := N_weights) (sc := defScope s_weights) (by decide +kernel)) (fun _ _ _ _ _ => (pg_name (i := 11) sc_weights.nd rfl (by first | exact Or.inl rfl | exact Or.inr rfl))) (fun _ _ _ _ _ => pts_nil) (fun _ _ _ _ _ => (pe_call (ok_without T) (hr.mono (by decide)) (by rfl) T.g_without T.F_without.kp (b_without T) .nil pass0 (pa_cons (pv 11) (pa_cons (pe_ix (ix_K (K := K) rfl) (pv 4) pe_int (fun _ _ => rfl)) (pa_cons (pv 3) pa_nil)))))))))) pss_nil))))
 (pss_cons (ps_setLc (i := 6) (own := [("row", 11)]) (by rfl) sc_weights.nd rfl rfl (sw_true rfl rfl rfl (by decide +kernel)) (pi_listK (K := K) rfl (pv 2)) (blkOk_by (own := [("row", 11)]) (N := N_weights) (sc := defScope s_weights) (by decide +kernel)) (fun _ _ _ _ _ => (pg_name (i := 11) sc_weights.nd rfl (by first | exact Or.inl rfl | exact Or.inr rfl))) (fun _ _ _ _ _ => (pts_one (pt_cmpR (op_neK (K := K) rfl hr.units) (pe_ix (ix_K (K := K) rfl) (pv 11) (pv 0) (fun _ _ => rfl)) pe_int (nomark _)))) (fun _ _ _ _ _ => (pv 11)))
 (pss_cons (ps_if (pt_cmpR (op_eqK (K := K) rfl hr.units) (pv 6) (pe_lst pa_nil) (nomark _)) (pss_one (ps_ret pe_non)) pss_nil)
 (pss_cons (ps_par (i := 7) (j := 8) (by rfl) sc_weights.nd rfl rfl (by decide) rfl rfl (pa_cons (pe_lst pa_nil) (pa_cons (pe_op (op_addK (K := K) rfl) (pv 0) pe_int) pa_nil)) (by rfl))
 (pss_cons (ps_for PassesOwn.never rfl (pi_tupleK (K := K) rfl (pv 1)) (pg_tupK (K := K) (n := 2) rfl (by rfl) (pgs_cons (pg_name (i := 9) sc_weights.nd rfl (by first | exact Or.inl rfl | exact Or.inr rfl)) (pgs_cons (pg_name (i := 10) sc_weights.nd rfl (by first | exact Or.inl rfl | exact Or.inr rfl)) pgs_nil))) (pss_cons (ps_expr (pe_bm PySem.F.plainAttrs_list PySem.F.slot_list_append PySem.F.type_list_append mt_append (pv 7) (pa_cons (pe_callTy (call_tupleK (K := K) rfl) (by rfl) T.b_tuple (by decide +kernel) (pa_cons (pe_slice (sl_K (K := K) rfl) (pe_ix (ix_K (K := K) rfl) (pv 6) pe_int (fun _ _ => rfl)) (po_some (pv 8)) (po_some (pe_op (op_addK (K := K) rfl) (pv 8) (pe_callB (call_lenK (K := K) rfl) (by rfl) T.b_len (by decide +kernel) (pa_cons (pv 10) pa_nil))))) pa_nil)) pa_nil)))
 (pss_one (ps_set (i := 8) sc_weights.nd rfl (by first | exact Or.inl rfl | exact Or.inr rfl) (pe_op (op_addK (K := K) rfl) (pv 8) (pe_callB (call_lenK (K := K) rfl) (by rfl) T.b_len (by decide +kernel) (pa_cons (pv 10) pa_nil)))))))
 (pss_one (ps_ret (pe_callTy (call_tupleK (K := K) rfl) (by rfl) T.b_tuple (by decide +kernel) (pa_cons (pv 7) pa_nil))))))))))), ?_⟩
  exact (imp_seq (imp_drop (imp_call (F := F_need_long) (imp_cons (imp_v 0) (imp_cons (imp_v 1) imp_nil))))
 (imp_seq (imp_asg (imp_call (F := F_all_stands) (imp_cons (imp_v 0) (imp_cons (imp_v 1) imp_nil))) (imp_gN 2))
 (imp_seq (imp_for (imp_r1 (imp_cons (imp_v 0) imp_nil)) (imp_gN 3)
 (imp_then [3, 4] (imp_seq (imp_asg (imp_ofL (imp_lc (vs := [11]) (imp_iL (imp_v 2)) (imp_gN 11) (only_N (by decide)) mono_N (imp_test (imp_op d_ne (imp_op d_ix (imp_v 11) (imp_v 3)) imp_int)) (imp_v 11))) (imp_gN 4))
 (imp_if (imp_test (imp_op d_ne (imp_v 4) (imp_lst imp_nil)))
 (imp_then [5] (imp_seq (imp_asg (imp_ofL (imp_lc (vs := [11]) (imp_iL (imp_v 2)) (imp_gN 11) (only_N (by decide)) mono_N (imp_test (imp_op d_eq (imp_op d_ix (imp_v 11) (imp_v 3)) imp_int)) (imp_v 11))) (imp_gN 5))
 (imp_asg (imp_op d_add (imp_v 5) (imp_ofL (imp_lc (vs := [11]) (imp_iL (imp_sl d_sl (imp_v 4) (imp_p imp_int) imp_noP)) (imp_gN 11) (only_N (by decide)) mono_N imp_yes (imp_call (F := F_without) (imp_cons (imp_v 11) (imp_cons (imp_op d_ix (imp_v 4) imp_int) (imp_cons (imp_v 3) imp_nil))))))) (imp_gN 2))))
 imp_next))))
 (imp_seq (imp_asg (imp_ofL (imp_lc (vs := [11]) (imp_iL (imp_v 2)) (imp_gN 11) (only_N (by decide)) mono_N (imp_test (imp_op d_ne (imp_op d_ix (imp_v 11) (imp_v 0)) imp_int)) (imp_v 11))) (imp_gN 6))
 (imp_seq (imp_if (imp_test (imp_op d_eq (imp_v 6) (imp_lst imp_nil)))
 (imp_ret imp_non)
 imp_next)
 (imp_seq (imp_many2 (imp_avF (imp_dispL imp_nil) (imp_avP (imp_op d_add (imp_v 0) imp_int) imp_avNil)))
 (imp_seq (imp_for (imp_iT (imp_v 1)) (imp_gTup (imp_gCons (imp_gN 9) (imp_gCons (imp_gN 10) imp_gNil)) (qCons_len (qCons_len qNil_len)))
 (imp_then [9, 10] (imp_seq (imp_app (i := 7) (imp_cb d_tuple (imp_cons (imp_sl d_sl (imp_op d_ix (imp_v 6) imp_int) (imp_p (imp_v 8)) (imp_p (imp_op d_add (imp_v 8) (imp_cb d_len (imp_cons (imp_v 10) imp_nil))))) imp_nil)))
 (imp_asg (imp_op d_add (imp_v 8) (imp_cb d_len (imp_cons (imp_v 10) imp_nil))) (imp_gN 8)))))
 (imp_frz 7 (imp_ret (imp_cb d_tuple (imp_cons (imp_v 7) imp_nil)))))))))))
theorem ok_are_weights_by_form (T : TX K mg) : FnOk P w K mg base CX0 2 T.f_are_weights_by_form T.d_are_weights_by_form ["told", "thing"] (spP K F_are_weights_by_form) := by
  refine okP (k := 1) (ps := ["told", "thing"]) (n := 4) T.F_are_weights_by_form sc_are_weights_by_form rfl fun cdv A outer s H E hr => ⟨_, (pss_cons (ps_if (PW.pt (pw_or (pt_not (pt_val (pe_callB (call_isiK (K := K) rfl) (by rfl) T.b_isinstance (by decide +kernel) (pa_cons (pv 1) (pa_cons (pe_bltn (v := .ty "tuple") (by rfl) T.b_tuple (by decide +kernel) rfl) pa_nil))))) (pw_or (pt_cmpR (op_neK (K := K) rfl hr.units) (pe_callB (call_lenK (K := K) rfl) (by rfl) T.b_len (by decide +kernel) (pa_cons (pv 1) pa_nil)) (pe_callB (call_lenK (K := K) rfl) (by rfl) T.b_len (by decide +kernel) (pa_cons (pv 0) pa_nil)) (nomark _)) (pw_or1 (pt_not (pt_val (pe_callB (cr_allK (K := K) rfl rfl) (by rfl) T.b_all (by decide +kernel) (pa_cons (pe_lc (own := [("one", 2)]) (by rfl) sc_are_weights_by_form.nd (pi_tupleK (K := K) rfl (pv 1)) (blkOk_by (own := [("one", 2)]) (N := N_are_weights_by_form) (sc := defScope s_are_weights_by_form) (by decide +kernel)) (fun _ _ _ _ _ => (pg_name (i := 2) sc_are_weights_by_form.nd rfl (by first | exact Or.inl rfl | exact Or.inr rfl))) (fun _ _ _ _ _ => pts_nil) (fun _ _ _ _ _ => (pe_callB (call_isiK (K := K) rfl) (by rfl) T.b_isinstance (by decide +kernel) (pa_cons (pv 2) (pa_cons (pe_bltn (v := .ty "tuple") (by rfl) T.b_tuple (by decide +kernel) rfl) pa_nil))))) pa_nil)))))))) (pss_one (ps_ret pe_bl)) pss_nil)
 (pss_cons (ps_if (pt_not (pt_val (pe_callB (cr_allK (K := K) rfl rfl) (by rfl) T.b_all (by decide +kernel) (pa_cons (pe_lc (own := [("one", 2), ("frame", 3), ("counts", 4)]) (by rfl) sc_are_weights_by_form.nd (pi_zipK (by rfl) T.b_zip (pa_cons (pv 1) (pa_cons (pv 0) pa_nil))) (blkOk_by (own := [("one", 2), ("frame", 3), ("counts", 4)]) (N := N_are_weights_by_form) (sc := defScope s_are_weights_by_form) (by decide +kernel)) (fun _ _ _ _ _ => (pg_tupK (K := K) (n := 2) rfl (by rfl) (pgs_cons (pg_name (i := 2) sc_are_weights_by_form.nd rfl (by first | exact Or.inl rfl | exact Or.inr rfl)) (pgs_cons (pg_tupK (K := K) (n := 2) rfl (by rfl) (pgs_cons (pg_name (i := 3) sc_are_weights_by_form.nd rfl (by first | exact Or.inl rfl | exact Or.inr rfl)) (pgs_cons (pg_name (i := 4) sc_are_weights_by_form.nd rfl (by first | exact Or.inl rfl | exact Or.inr rfl)) pgs_nil))) pgs_nil)))) (fun _ _ _ _ _ => pts_nil) (fun _ _ _ _ _ => (pe_cmpR (op_eqK (K := K) rfl hr.units) (pe_callB (call_lenK (K := K) rfl) (by rfl) T.b_len (by decide +kernel) (pa_cons (pv 2) pa_nil)) (pe_callB (call_lenK (K := K) rfl) (by rfl) T.b_len (by decide +kernel) (pa_cons (pv 4) pa_nil)) (nomark _)))) pa_nil)))) (pss_one (ps_ret pe_bl)) pss_nil)
 (pss_one (ps_ret (pe_callB (cr_allK (K := K) rfl rfl) (by rfl) T.b_all (by decide +kernel) (pa_cons (pe_lc2 (own := [("some", 5), ("one", 2)]) (vs1 := [2]) (by rfl) sc_are_weights_by_form.nd (pi_tupleK (K := K) rfl (pv 1)) (blkOk_by (own := [("some", 5), ("one", 2)]) (N := N_are_weights_by_form) (sc := defScope s_are_weights_by_form) (by decide +kernel)) (by decide) (fun _ _ _ _ _ => (pg_name (i := 5) sc_are_weights_by_form.nd rfl (by first | exact Or.inl rfl | exact Or.inr rfl))) (fun _ _ _ _ _ => pts_nil) (fun _ _ _ _ _ => (pi_tupleK (K := K) rfl (pv 5))) (fun _ _ _ _ _ => (pg_name (i := 2) sc_are_weights_by_form.nd rfl (by first | exact Or.inl rfl | exact Or.inr rfl))) (fun _ _ _ _ _ => pts_nil) (fun _ _ _ _ _ => (pe_call (ok_is_between T) (hr.mono (by decide)) (by rfl) T.g_is_between T.F_is_between.kp (b_is_between T) .nil pass0 (pa_cons (pv 2) (pa_cons (pe_op op_sub pe_int (pe_glob (v := .int (10000000000000000000000000000000000000000)) (by rfl) T.c_MOST_WEIGHT ⟨_, rfl⟩)) (pa_cons (pe_glob (v := .int (10000000000000000000000000000000000000000)) (by rfl) T.c_MOST_WEIGHT ⟨_, rfl⟩) pa_nil)))))) pa_nil)))))), ?_⟩
  exact (imp_seq (imp_if (imp_or (imp_not (imp_tB (imp_isi (k := .tuple) (imp_v 1)))) (imp_or (imp_test (imp_op d_ne (imp_cb d_len (imp_cons (imp_v 1) imp_nil)) (imp_cb d_len (imp_cons (imp_v 0) imp_nil)))) (imp_not (imp_tB (imp_cb d_all (imp_cons (imp_ofL (imp_lc (vs := [2]) (imp_iT (imp_v 1)) (imp_gN 2) (only_N (by decide)) mono_N imp_yes (imp_isi (k := .tuple) (imp_v 2)))) imp_nil))))))
 (imp_ret imp_bl)
 imp_next)
 (imp_seq (imp_if (imp_not (imp_tB (imp_cb d_all (imp_cons (imp_ofL (imp_lc (vs := [2, 3, 4]) (imp_zip (imp_v 1) (imp_v 0)) (imp_gTup (imp_gCons (imp_gN 2) (imp_gCons (imp_gTup (imp_gCons (imp_gN 3) (imp_gCons (imp_gN 4) imp_gNil)) (qCons_len (qCons_len qNil_len))) imp_gNil)) (qCons_len (qCons_len qNil_len))) (only_tup (only_cons (only_N (by decide)) (only_cons (only_tup (only_cons (only_N (by decide)) (only_cons (only_N (by decide)) only_nil mono_N mono_nil) mono_N (mono_cons mono_N mono_nil))) only_nil (mono_tup (mono_cons mono_N (mono_cons mono_N mono_nil))) mono_nil) mono_N (mono_cons (mono_tup (mono_cons mono_N (mono_cons mono_N mono_nil))) mono_nil))) (mono_tup (mono_cons mono_N (mono_cons (mono_tup (mono_cons mono_N (mono_cons mono_N mono_nil))) mono_nil))) imp_yes (imp_op d_eq (imp_cb d_len (imp_cons (imp_v 2) imp_nil)) (imp_cb d_len (imp_cons (imp_v 4) imp_nil))))) imp_nil))))
 (imp_ret imp_bl)
 imp_next)
 (imp_ret (imp_cb d_all (imp_cons (imp_ofL (imp_lc2 (vs := [5, 2]) (vs1 := [2]) (imp_iT (imp_v 1)) (imp_gN 5) (only_N (by decide)) mono_N imp_yes (imp_iT (imp_v 5)) (imp_gN 2) (only_N (by decide)) mono_N imp_yes (imp_call (F := F_is_between) (imp_cons (imp_v 2) (imp_cons (imp_op d_sub imp_int imp_int) (imp_cons imp_int imp_nil)))))) imp_nil)))))
theorem ok_are_weights (T : TX K mg) : FnOk P w K mg base CX0 3 T.f_are_weights T.d_are_weights ["places", "told", "thing"] (spP K F_are_weights) := by
  refine okP (k := 2) (ps := ["places", "told", "thing"]) (n := 9) T.F_are_weights sc_are_weights rfl fun cdv A outer s H E hr => ⟨_, (pss_cons (ps_if (pt_not (pt_val (pe_call (ok_are_weights_by_form T) (hr.mono (by decide)) (by rfl) T.g_are_weights_by_form T.F_are_weights_by_form.kp (b_are_weights_by_form T) .nil pass0 (pa_cons (pv 1) (pa_cons (pv 2) pa_nil))))) (pss_one (ps_ret pe_bl)) pss_nil)
 (pss_cons (ps_par (i := 3) (j := 4) (by rfl) sc_are_weights.nd rfl rfl (by decide) rfl rfl (pa_cons (pe_op (op_mulK (K := K) rfl) (pe_lst (pa_cons pe_int pa_nil)) (pv 0)) (pa_cons pe_int pa_nil)) (by rfl))
 (pss_cons (ps_for PassesOwn.never rfl (pi_zipK (by rfl) T.b_zip (pa_cons (pv 2) (pa_cons (pv 1) pa_nil))) (pg_tupK (K := K) (n := 2) rfl (by rfl) (pgs_cons (pg_name (i := 5) sc_are_weights.nd rfl (by first | exact Or.inl rfl | exact Or.inr rfl)) (pgs_cons (pg_tupK (K := K) (n := 2) rfl (by rfl) (pgs_cons (pg_name (i := 6) sc_are_weights.nd rfl (by first | exact Or.inl rfl | exact Or.inr rfl)) (pgs_cons (pg_name (i := 7) sc_are_weights.nd rfl (by first | exact Or.inl rfl | exact Or.inr rfl)) pgs_nil))) pgs_nil))) (pss_one (ps_for PassesOwn.never rfl (pi_enumK (by rfl) T.b_enumerate (pa_cons (pv 5) pa_nil)) (pg_tupK (K := K) (n := 2) rfl (by rfl) (pgs_cons (pg_name (i := 8) sc_are_weights.nd rfl (by first | exact Or.inl rfl | exact Or.inr rfl)) (pgs_cons (pg_name (i := 9) sc_are_weights.nd rfl (by first | exact Or.inl rfl | exact Or.inr rfl)) pgs_nil))) (pss_cons (ps_aug (i := 4) sc_are_weights.nd rfl (by first | exact Or.inl rfl | exact Or.inr rfl) (pe_op (op_mulK (K := K) rfl) (pv 9) (pe_ix (ix_K (K := K) rfl) (pv 7) (pv 8) (fun _ _ => rfl))) ip_add)
 (pss_one (ps_for PassesOwn.never rfl (pi_range2 (by rfl) T.b_range (pa_cons (pv 8) (pa_cons (pe_op (op_addK (K := K) rfl) (pv 8) (pv 6)) pa_nil))) (pg_name (i := 10) sc_are_weights.nd rfl (by first | exact Or.inl rfl | exact Or.inr rfl)) (pss_one (ps_augS (pv 3) (pv 10) get_list (pv 9) ip_add set_list))))))))
 (pss_one (ps_ret (pe_and (pe_cmpR (op_neK (K := K) rfl hr.units) (pv 4) pe_int (nomark _)) (pe_one (pe_not (pe_callB (cr_anyK (K := K) rfl rfl) (by rfl) T.b_any (by decide +kernel) (pa_cons (pe_lc (own := [("one", 11)]) (by rfl) sc_are_weights.nd (pi_listK (K := K) rfl (pv 3)) (blkOk_by (own := [("one", 11)]) (N := N_are_weights) (sc := defScope s_are_weights) (by decide +kernel)) (fun _ _ _ _ _ => (pg_name (i := 11) sc_are_weights.nd rfl (by first | exact Or.inl rfl | exact Or.inr rfl))) (fun _ _ _ _ _ => pts_nil) (fun _ _ _ _ _ => (pe_cmpR (op_neK (K := K) rfl hr.units) (pv 11) pe_int (nomark _)))) pa_nil)))))))))), ?_⟩
  exact (imp_seq (imp_if (imp_not (imp_tB (imp_call (F := F_are_weights_by_form) (imp_cons (imp_v 1) (imp_cons (imp_v 2) imp_nil)))))
 (imp_ret imp_bl)
 imp_next)
 (imp_seq (imp_many2 (imp_avF (imp_repL (imp_dispL (imp_cons imp_int imp_nil)) (imp_v 0)) (imp_avP imp_int imp_avNil)))
 (imp_seq (imp_for (imp_zip (imp_v 2) (imp_v 1)) (imp_gTup (imp_gCons (imp_gN 5) (imp_gCons (imp_gTup (imp_gCons (imp_gN 6) (imp_gCons (imp_gN 7) imp_gNil)) (qCons_len (qCons_len qNil_len))) imp_gNil)) (qCons_len (qCons_len qNil_len)))
 (imp_then [5, 6, 7] (imp_for (imp_enum (imp_v 5)) (imp_gTup (imp_gCons (imp_gN 8) (imp_gCons (imp_gN 9) imp_gNil)) (qCons_len (qCons_len qNil_len)))
 (imp_then [8, 9] (imp_seq (imp_aug d_ip (imp_op d_mul (imp_v 9) (imp_op d_ix (imp_v 7) (imp_v 8))))
 (imp_for (imp_r2 (imp_cons (imp_v 8) (imp_cons (imp_op d_add (imp_v 8) (imp_v 6)) imp_nil))) (imp_gN 10)
 (imp_then [10] (imp_augI (i := 3) d_ip (imp_v 10) (imp_v 9)))))))))
 (imp_frz 3 (imp_ret (imp_andV (imp_op d_ne (imp_v 4) imp_int) (imp_notV (imp_cb d_any (imp_cons (imp_ofL (imp_lc (vs := [11]) (imp_iL (imp_v 3)) (imp_gN 11) (only_N (by decide)) mono_N imp_yes (imp_op d_ne (imp_v 11) imp_int))) imp_nil)))))))))
theorem ok_l_draw (T : TX K mg) : FnOk P w K mg base CX0 1 T.f_l_draw T.d_l_draw ["draws", "many"] (spD K F_l_draw) := by
  refine okD (k := 0) (ps := ["many"]) (n := 2) T.F_l_draw sc_l_draw rfl fun cdv A outer s H E hr => ⟨_, (pss_cons (ps_if (pt_cmpR op_gt (pe_ix (ix_K (K := K) rfl) (pv 0) pe_int (fun _ _ => rfl)) pe_int (nomark _)) (pss_cons (ps_set (i := 2) sc_l_draw.nd rfl (by first | exact Or.inl rfl | exact Or.inr rfl) (pe_op op_mod (pe_ix (ix_K (K := K) rfl) (pv 0) pe_int (fun _ _ => rfl)) (pv 1)))
 (pss_cons (ps_asg (pe_op op_fdiv (pe_ix (ix_K (K := K) rfl) (pv 0) pe_int (fun _ _ => rfl)) (pv 1)) (pg_sub (pv 0) pe_int set_list))
 (pss_one (ps_ret (pv 2))))) pss_nil)
 (pss_cons (ps_set (i := 2) sc_l_draw.nd rfl (by first | exact Or.inl rfl | exact Or.inr rfl) pe_int)
 (pss_cons (ps_set (i := 3) sc_l_draw.nd rfl (by first | exact Or.inl rfl | exact Or.inr rfl) pe_int)
 (pss_cons (ps_while PassesOwn.never (pt_cmpR op_lt (pv 3) (pv 1) (nomark _)) (pss_cons (ps_asg (pe_op op_mod (pe_op (op_mulK (K := K) rfl) (pe_ix (ix_K (K := K) rfl) (pv 0) pe_int (fun _ _ => rfl)) pe_int) pe_int) (pg_sub (pv 0) pe_int set_list))
 (pss_cons (ps_set (i := 2) sc_l_draw.nd rfl (by first | exact Or.inl rfl | exact Or.inr rfl) (pe_op (op_addK (K := K) rfl) (pe_op (op_mulK (K := K) rfl) (pv 2) pe_int) (pe_op op_fdiv (pe_op op_mod (pe_op (op_mulK (K := K) rfl) (pe_ix (ix_K (K := K) rfl) (pv 0) pe_int (fun _ _ => rfl)) (pe_op (op_addK (K := K) rfl) (pe_op op_fdiv (pe_ix (ix_K (K := K) rfl) (pv 0) pe_int (fun _ _ => rfl)) pe_int) pe_int)) pe_int) pe_int)))
 (pss_one (ps_set (i := 3) sc_l_draw.nd rfl (by first | exact Or.inl rfl | exact Or.inr rfl) (pe_op (op_mulK (K := K) rfl) (pv 3) pe_int))))))
 (pss_one (ps_ret (pe_op op_mod (pv 2) (pv 1)))))))), ?_⟩
  exact (imp_seq (imp_if (imp_test (imp_op d_gt (imp_drIx (i := 0) imp_int) imp_int))
 (imp_seq (imp_asg (imp_op d_mod (imp_drIx (i := 0) imp_int) (imp_v 1)) (imp_gN 2))
 (imp_seq (imp_drSet (i := 0) imp_int (imp_op d_fdiv (imp_drIx (i := 0) imp_int) (imp_v 1)))
 (imp_ret (imp_v 2))))
 imp_next)
 (imp_seq (imp_asg imp_int (imp_gN 2))
 (imp_seq (imp_asg imp_int (imp_gN 3))
 (imp_seq (imp_while 3 (imp_test (imp_op d_lt (imp_v 3) (imp_v 1))) (imp_seq (imp_drSet (i := 0) imp_int (imp_op d_mod (imp_op d_mul (imp_drIx (i := 0) imp_int) imp_int) imp_int))
 (imp_seq (imp_asg (imp_op d_add (imp_op d_mul (imp_v 2) imp_int) (imp_op d_fdiv (imp_op d_mod (imp_op d_mul (imp_drIx (i := 0) imp_int) (imp_op d_add (imp_op d_fdiv (imp_drIx (i := 0) imp_int) imp_int) imp_int)) imp_int) imp_int)) (imp_gN 2))
 (imp_asg (imp_op d_mul (imp_v 3) imp_int) (imp_gN 3)))))
 (imp_ret (imp_op d_mod (imp_v 2) (imp_v 1)))))))
theorem ok_l_of (T : TX K mg) : FnOk P w K mg base CX0 2 T.f_l_of T.d_l_of ["draws", "some"] (spD K F_l_of) := by
  refine okD (k := 1) (ps := ["some"]) (n := 0) T.F_l_of sc_l_of rfl fun cdv A outer s H E hr => ⟨_, (pss_one (ps_ret (pe_ix (ix_K (K := K) rfl) (pv 1) (pe_call (ok_l_draw T) (hr.mono (by decide)) (by rfl) T.g_l_draw T.F_l_draw.kp (b_l_draw T) .nil pass0 (pa_cons (pv 0) (pa_cons (pe_callB (call_lenK (K := K) rfl) (by rfl) T.b_len (by decide +kernel) (pa_cons (pv 1) pa_nil)) pa_nil))) (fun _ _ => rfl)))), ?_⟩
  exact (imp_ret (imp_op d_ix (imp_v 1) (imp_callD (F := F_l_draw) (i := 0) (imp_cons (imp_cb d_len (imp_cons (imp_v 1) imp_nil)) imp_nil))))
theorem ok_l_is_whole (T : TX K mg) : FnOk P w K mg base CX0 1 T.f_l_is_whole T.d_l_is_whole ["thing", "low", "high"] (spP K F_l_is_whole) := by
  refine okP (k := 0) (ps := ["thing", "low", "high"]) (n := 0) T.F_l_is_whole sc_l_is_whole rfl fun cdv A outer s H E hr => ⟨_, (pss_one (ps_ret (pe_and (pe_callB (call_isiK (K := K) rfl) (by rfl) T.b_isinstance (by decide +kernel) (pa_cons (pv 0) (pa_cons (pe_bltn (v := .ty "int") (by rfl) T.b_int (by decide +kernel) rfl) pa_nil))) (pe_and (pe_not (pe_callB (call_isiK (K := K) rfl) (by rfl) T.b_isinstance (by decide +kernel) (pa_cons (pv 0) (pa_cons (pe_bltn (v := .ty "bool") (by rfl) T.b_bool (by decide +kernel) rfl) pa_nil)))) (pe_one (pe_chain op_le op_le (pv 1) (pv 0) (pv 2))))))), ?_⟩
  exact (imp_ret (imp_andV (imp_isi (k := .int) (imp_v 0)) (imp_andV (imp_notV (imp_isi (k := .bool) (imp_v 0))) (imp_chain d_le d_le (imp_v 1) (imp_v 0) (imp_v 2)))))
theorem ok_l_are_weights (T : TX K mg) : FnOk P w K mg base CX0 2 T.f_l_are_weights T.d_l_are_weights ["places_d", "told_d", "thing"] (spP K F_l_are_weights) := by
  refine okP (k := 1) (ps := ["places_d", "told_d", "thing"]) (n := 9) T.F_l_are_weights sc_l_are_weights rfl fun cdv A outer s H E hr => ⟨_, (pss_cons (ps_if (PW.pt (pw_or (pt_not (pt_val (pe_callB (call_isiK (K := K) rfl) (by rfl) T.b_isinstance (by decide +kernel) (pa_cons (pv 2) (pa_cons (pe_bltn (v := .ty "tuple") (by rfl) T.b_tuple (by decide +kernel) rfl) pa_nil))))) (pw_or1 (pt_cmpR (op_neK (K := K) rfl hr.units) (pe_callB (call_lenK (K := K) rfl) (by rfl) T.b_len (by decide +kernel) (pa_cons (pv 2) pa_nil)) (pe_callB (call_lenK (K := K) rfl) (by rfl) T.b_len (by decide +kernel) (pa_cons (pv 1) pa_nil)) (nomark _))))) (pss_one (ps_ret pe_bl)) pss_nil)
 (pss_cons (ps_par (i := 3) (j := 4) (by rfl) sc_l_are_weights.nd rfl rfl (by decide) rfl rfl (pa_cons pe_int (pa_cons (pe_op (op_mulK (K := K) rfl) (pe_lst (pa_cons pe_int pa_nil)) (pv 0)) pa_nil)) (by rfl))
 (pss_cons (ps_for PassesOwn.never rfl (pi_zipK (by rfl) T.b_zip (pa_cons (pv 2) (pa_cons (pv 1) pa_nil))) (pg_tupK (K := K) (n := 2) rfl (by rfl) (pgs_cons (pg_name (i := 5) sc_l_are_weights.nd rfl (by first | exact Or.inl rfl | exact Or.inr rfl)) (pgs_cons (pg_tupK (K := K) (n := 2) rfl (by rfl) (pgs_cons (pg_name (i := 6) sc_l_are_weights.nd rfl (by first | exact Or.inl rfl | exact Or.inr rfl)) (pgs_cons (pg_name (i := 7) sc_l_are_weights.nd rfl (by first | exact Or.inl rfl | exact Or.inr rfl)) pgs_nil))) pgs_nil))) (pss_cons (ps_if (PW.pt (pw_or (pt_not (pt_val (pe_callB (call_isiK (K := K) rfl) (by rfl) T.b_isinstance (by decide +kernel) (pa_cons (pv 5) (pa_cons (pe_bltn (v := .ty "tuple") (by rfl) T.b_tuple (by decide +kernel) rfl) pa_nil))))) (pw_or1 (pt_cmpR (op_neK (K := K) rfl hr.units) (pe_callB (call_lenK (K := K) rfl) (by rfl) T.b_len (by decide +kernel) (pa_cons (pv 5) pa_nil)) (pe_callB (call_lenK (K := K) rfl) (by rfl) T.b_len (by decide +kernel) (pa_cons (pv 7) pa_nil)) (nomark _))))) (pss_one (ps_ret pe_bl)) pss_nil)
 (pss_one (ps_for PassesOwn.never rfl (pi_enumK (by rfl) T.b_enumerate (pa_cons (pv 5) pa_nil)) (pg_tupK (K := K) (n := 2) rfl (by rfl) (pgs_cons (pg_name (i := 8) sc_l_are_weights.nd rfl (by first | exact Or.inl rfl | exact Or.inr rfl)) (pgs_cons (pg_name (i := 9) sc_l_are_weights.nd rfl (by first | exact Or.inl rfl | exact Or.inr rfl)) pgs_nil))) (pss_cons (ps_if (pt_not (pt_val (pe_call (ok_l_is_whole T) (hr.mono (by decide)) (by rfl) T.g_l_is_whole T.F_l_is_whole.kp (b_l_is_whole T) .nil pass0 (pa_cons (pv 9) (pa_cons (pe_un un_neg (pe_op op_pow pe_int pe_int)) (pa_cons (pe_op op_pow pe_int pe_int) pa_nil)))))) (pss_one (ps_ret pe_bl)) pss_nil)
 (pss_cons (ps_set (i := 3) sc_l_are_weights.nd rfl (by first | exact Or.inl rfl | exact Or.inr rfl) (pe_op (op_addK (K := K) rfl) (pv 3) (pe_op (op_mulK (K := K) rfl) (pv 9) (pe_ix (ix_K (K := K) rfl) (pv 7) (pv 8) (fun _ _ => rfl)))))
 (pss_one (ps_for PassesOwn.never rfl (pi_range2 (by rfl) T.b_range (pa_cons (pv 8) (pa_cons (pe_op (op_addK (K := K) rfl) (pv 8) (pv 6)) pa_nil))) (pg_name (i := 10) sc_l_are_weights.nd rfl (by first | exact Or.inl rfl | exact Or.inr rfl)) (pss_one (ps_asg (pe_op (op_addK (K := K) rfl) (pe_ix (ix_K (K := K) rfl) (pv 4) (pv 10) (fun _ _ => rfl)) (pv 9)) (pg_sub (pv 4) (pv 10) set_list)))))))))))
 (pss_one (ps_ret (pe_and (pe_cmpR (op_neK (K := K) rfl hr.units) (pv 3) pe_int (nomark _)) (pe_one (pe_cmpR (op_eqK (K := K) rfl hr.units) (pe_lc (own := [("one", 11)]) (by rfl) sc_l_are_weights.nd (pi_listK (K := K) rfl (pv 4)) (blkOk_by (own := [("one", 11)]) (N := N_l_are_weights) (sc := defScope s_l_are_weights) (by decide +kernel)) (fun _ _ _ _ _ => (pg_name (i := 11) sc_l_are_weights.nd rfl (by first | exact Or.inl rfl | exact Or.inr rfl))) (fun _ _ _ _ _ => (pts_one (pt_cmpR (op_neK (K := K) rfl hr.units) (pv 11) pe_int (nomark _)))) (fun _ _ _ _ _ => (pv 11))) (pe_lst pa_nil) (nomark _))))))))), ?_⟩
  exact (imp_seq (imp_if (imp_or (imp_not (imp_tB (imp_isi (k := .tuple) (imp_v 2)))) (imp_test (imp_op d_ne (imp_cb d_len (imp_cons (imp_v 2) imp_nil)) (imp_cb d_len (imp_cons (imp_v 1) imp_nil)))))
 (imp_ret imp_bl)
 imp_next)
 (imp_seq (imp_many2 (imp_avP imp_int (imp_avF (imp_repL (imp_dispL (imp_cons imp_int imp_nil)) (imp_v 0)) imp_avNil)))
 (imp_seq (imp_for (imp_zip (imp_v 2) (imp_v 1)) (imp_gTup (imp_gCons (imp_gN 5) (imp_gCons (imp_gTup (imp_gCons (imp_gN 6) (imp_gCons (imp_gN 7) imp_gNil)) (qCons_len (qCons_len qNil_len))) imp_gNil)) (qCons_len (qCons_len qNil_len)))
 (imp_then [5, 6, 7] (imp_seq (imp_if (imp_or (imp_not (imp_tB (imp_isi (k := .tuple) (imp_v 5)))) (imp_test (imp_op d_ne (imp_cb d_len (imp_cons (imp_v 5) imp_nil)) (imp_cb d_len (imp_cons (imp_v 7) imp_nil)))))
 (imp_ret imp_bl)
 imp_next)
 (imp_for (imp_enum (imp_v 5)) (imp_gTup (imp_gCons (imp_gN 8) (imp_gCons (imp_gN 9) imp_gNil)) (qCons_len (qCons_len qNil_len)))
 (imp_then [8, 9] (imp_seq (imp_if (imp_not (imp_tB (imp_call (F := F_l_is_whole) (imp_cons (imp_v 9) (imp_cons (imp_un d_neg (imp_op d_pow imp_int imp_int)) (imp_cons (imp_op d_pow imp_int imp_int) imp_nil))))))
 (imp_ret imp_bl)
 imp_next)
 (imp_seq (imp_asg (imp_op d_add (imp_v 3) (imp_op d_mul (imp_v 9) (imp_op d_ix (imp_v 7) (imp_v 8)))) (imp_gN 3))
 (imp_for (imp_r2 (imp_cons (imp_v 8) (imp_cons (imp_op d_add (imp_v 8) (imp_v 6)) imp_nil))) (imp_gN 10)
 (imp_then [10] (imp_setI (i := 4) (imp_v 10) (imp_op d_add (imp_ixO (i := 4) (imp_v 10)) (imp_v 9))))))))))))
 (imp_frz 4 (imp_ret (imp_andV (imp_op d_ne (imp_v 3) imp_int) (imp_op d_eq (imp_ofL (imp_lc (vs := [11]) (imp_iL (imp_v 4)) (imp_gN 11) (only_N (by decide)) mono_N (imp_test (imp_op d_ne (imp_v 11) imp_int)) (imp_v 11))) (imp_lst imp_nil))))))))
theorem ok_l_grown (T : TX K mg) : FnOk P w K mg base CX0 1 T.f_l_grown T.d_l_grown ["places_d", "frame", "counts", "firsts"] (spP K F_l_grown) := by
  refine okP (k := 0) (ps := ["places_d", "frame", "counts", "firsts"]) (n := 3) T.F_l_grown sc_l_grown rfl fun cdv A outer s H E hr => ⟨_, (pss_cons (ps_set (i := 4) sc_l_grown.nd rfl (by first | exact Or.inl rfl | exact Or.inr rfl) (pe_callTy (call_listK (K := K) rfl) (by rfl) T.b_list (by decide +kernel) (pa_cons (pv 3) pa_nil)))
 (pss_cons (ps_for PassesOwn.never rfl (pi_range2 (by rfl) T.b_range (pa_cons (pv 1) (pa_cons (pv 0) pa_nil))) (pg_name (i := 5) sc_l_grown.nd rfl (by first | exact Or.inl rfl | exact Or.inr rfl)) (pss_cons (ps_set (i := 6) sc_l_grown.nd rfl (by first | exact Or.inl rfl | exact Or.inr rfl) (pe_op op_sub (pv 5) (pv 1)))
 (pss_one (ps_expr (pe_bm PySem.F.plainAttrs_list PySem.F.slot_list_append PySem.F.type_list_append mt_append (pv 4) (pa_cons (pe_op op_sub (pe_op (op_addK (K := K) rfl) (pe_ix (ix_K (K := K) rfl) (pv 4) (pv 6) (fun _ _ => rfl)) (pe_ix (ix_K (K := K) rfl) (pv 2) (pe_op (op_addK (K := K) rfl) (pv 6) pe_int) (fun _ _ => rfl))) (pe_ix (ix_K (K := K) rfl) (pv 2) (pv 6) (fun _ _ => rfl))) pa_nil))))))
 (pss_one (ps_ret (pe_callTy (call_tupleK (K := K) rfl) (by rfl) T.b_tuple (by decide +kernel) (pa_cons (pv 4) pa_nil)))))), ?_⟩
  exact (imp_seq (imp_asgL 4 (imp_listOf (imp_cons (imp_v 3) imp_nil)))
 (imp_seq (imp_for (imp_r2 (imp_cons (imp_v 1) (imp_cons (imp_v 0) imp_nil))) (imp_gN 5)
 (imp_then [5, 6] (imp_seq (imp_asg (imp_op d_sub (imp_v 5) (imp_v 1)) (imp_gN 6))
 (imp_app (i := 4) (imp_op d_sub (imp_op d_add (imp_ixO (i := 4) (imp_v 6)) (imp_op d_ix (imp_v 2) (imp_op d_add (imp_v 6) imp_int))) (imp_op d_ix (imp_v 2) (imp_v 6)))))))
 (imp_frz 4 (imp_ret (imp_cb d_tuple (imp_cons (imp_v 4) imp_nil))))))
theorem ok_l_counts (T : TX K mg) : FnOk P w K mg base CX0 1 T.f_l_counts T.d_l_counts ["row", "frame"] (spP K F_l_counts) := by
  refine okP (k := 0) (ps := ["row", "frame"]) (n := 4) T.F_l_counts sc_l_counts rfl fun cdv A outer s H E hr => ⟨_, (pss_cons (ps_set (i := 2) sc_l_counts.nd rfl (by first | exact Or.inl rfl | exact Or.inr rfl) (pe_lst pa_nil))
 (pss_cons (ps_for PassesOwn.never rfl (pi_range1 (by rfl) T.b_range (pa_cons (pe_op (op_addK (K := K) rfl) (pe_op op_sub (pe_callB (call_lenK (K := K) rfl) (by rfl) T.b_len (by decide +kernel) (pa_cons (pv 0) pa_nil)) (pv 1)) pe_int) pa_nil)) (pg_name (i := 3) sc_l_counts.nd rfl (by first | exact Or.inl rfl | exact Or.inr rfl)) (pss_cons (ps_set (i := 4) sc_l_counts.nd rfl (by first | exact Or.inl rfl | exact Or.inr rfl) pe_int)
 (pss_cons (ps_for PassesOwn.never rfl (pi_range2 (by rfl) T.b_range (pa_cons (pv 3) (pa_cons (pe_op (op_addK (K := K) rfl) (pv 3) (pv 1)) pa_nil))) (pg_name (i := 5) sc_l_counts.nd rfl (by first | exact Or.inl rfl | exact Or.inr rfl)) (pss_one (ps_set (i := 4) sc_l_counts.nd rfl (by first | exact Or.inl rfl | exact Or.inr rfl) (pe_op (op_addK (K := K) rfl) (pv 4) (pe_ix (ix_K (K := K) rfl) (pv 0) (pv 5) (fun _ _ => rfl))))))
 (pss_one (ps_expr (pe_bm PySem.F.plainAttrs_list PySem.F.slot_list_append PySem.F.type_list_append mt_append (pv 2) (pa_cons (pv 4) pa_nil)))))))
 (pss_one (ps_ret (pe_callTy (call_tupleK (K := K) rfl) (by rfl) T.b_tuple (by decide +kernel) (pa_cons (pv 2) pa_nil)))))), ?_⟩
  exact (imp_seq (imp_asgL 2 (imp_dispL imp_nil))
 (imp_seq (imp_for (imp_r1 (imp_cons (imp_op d_add (imp_op d_sub (imp_cb d_len (imp_cons (imp_v 0) imp_nil)) (imp_v 1)) imp_int) imp_nil)) (imp_gN 3)
 (imp_then [3, 4] (imp_seq (imp_asg imp_int (imp_gN 4))
 (imp_seq (imp_for (imp_r2 (imp_cons (imp_v 3) (imp_cons (imp_op d_add (imp_v 3) (imp_v 1)) imp_nil))) (imp_gN 5)
 (imp_then [5] (imp_asg (imp_op d_add (imp_v 4) (imp_op d_ix (imp_v 0) (imp_v 5))) (imp_gN 4))))
 (imp_app (i := 2) (imp_v 4))))))
 (imp_frz 2 (imp_ret (imp_cb d_tuple (imp_cons (imp_v 2) imp_nil))))))
theorem ok_l_common (T : TX K mg) : FnOk P w K mg base CX0 1 T.f_l_common T.d_l_common ["one", "other"] (spP K F_l_common) := by
  refine okP (k := 0) (ps := ["one", "other"]) (n := 0) T.F_l_common sc_l_common rfl fun cdv A outer s H E hr => ⟨_, (pss_cons (ps_while PassesOwn.never (pt_cmpR (op_neK (K := K) rfl hr.units) (pv 1) pe_int (nomark _)) (pss_one (ps_par (i := 0) (j := 1) (by rfl) sc_l_common.nd rfl rfl (by decide) rfl rfl (pa_cons (pv 1) (pa_cons (pe_op op_modN (pv 0) (pv 1)) pa_nil)) (by rfl))))
 (pss_one (ps_ret (pe_callB call_abs (by rfl) T.b_abs (by decide +kernel) (pa_cons (pv 0) pa_nil))))), ?_⟩
  exact (imp_seq (imp_while 100 (imp_test (imp_op d_ne (imp_v 1) imp_int)) (imp_many2 (imp_avP (imp_v 1) (imp_avP (imp_op d_modN (imp_v 0) (imp_v 1)) imp_avNil))))
 (imp_ret (imp_cb d_abs (imp_cons (imp_v 0) imp_nil))))
theorem ok_l_lengths (T : TX K mg) : FnOk P w K mg base CX0 3 T.f_l_lengths T.d_l_lengths ["draws", "places_d"] (spD K F_l_lengths) := by
  refine okD (k := 2) (ps := ["places_d"]) (n := 4) T.F_l_lengths sc_l_lengths rfl fun cdv A outer s H E hr => ⟨_, (pss_cons (ps_set (i := 2) sc_l_lengths.nd rfl (by first | exact Or.inl rfl | exact Or.inr rfl) (pe_lst pa_nil))
 (pss_cons (ps_for PassesOwn.never rfl (pi_range1 (by rfl) T.b_range (pa_cons (pe_op (op_addK (K := K) rfl) pe_int (pe_call (ok_l_draw T) (hr.mono (by decide)) (by rfl) T.g_l_draw T.F_l_draw.kp (b_l_draw T) .nil pass0 (pa_cons (pv 0) (pa_cons pe_int pa_nil)))) pa_nil)) (pg_name (i := 3) sc_l_lengths.nd rfl (by first | exact Or.inl rfl | exact Or.inr rfl)) (pss_cons (ps_set (i := 4) sc_l_lengths.nd rfl (by first | exact Or.inl rfl | exact Or.inr rfl) (pe_op (op_addK (K := K) rfl) pe_int (pe_call (ok_l_draw T) (hr.mono (by decide)) (by rfl) T.g_l_draw T.F_l_draw.kp (b_l_draw T) .nil pass0 (pa_cons (pv 0) (pa_cons (pe_call (ok_l_of T) (hr.mono (by decide)) (by rfl) T.g_l_of T.F_l_of.kp (b_l_of T) .nil pass0 (pa_cons (pv 0) (pa_cons (pe_lst (pa_cons (pv 1) (pa_cons (pv 1) (pa_cons (pe_callB (cr_maxS (K := K) rfl rfl) (by rfl) T.b_max (by decide +kernel) (pa_cons pe_int (pa_cons (pe_op op_fdiv (pv 1) pe_int) pa_nil))) (pa_cons (pe_callB (cr_minS (K := K) rfl rfl) (by rfl) T.b_min (by decide +kernel) (pa_cons (pv 1) (pa_cons pe_int pa_nil))) pa_nil))))) pa_nil))) pa_nil)))))
 (pss_cons (ps_set (i := 5) sc_l_lengths.nd rfl (by first | exact Or.inl rfl | exact Or.inr rfl) (pe_sortSetL (K := K) rfl rfl (by rfl) T.b_sorted (by rfl) T.b_set (pe_op (op_addK (K := K) rfl) (pv 2) (pe_lst (pa_cons (pv 4) pa_nil))) (by decide +kernel)))
 (pss_one (ps_if (PW.pt (pw_or (pt_cmpR op_lt (pe_callB (call_lenK (K := K) rfl) (by rfl) T.b_len (by decide +kernel) (pa_cons (pv 5) pa_nil)) pe_int (nomark _)) (pw_or1 (pt_cmpR op_ge (pv 1) (pe_op op_sub (pe_op (op_addK (K := K) rfl) (pe_ix (ix_K (K := K) rfl) (pv 5) (pe_un un_neg pe_int) (fun _ _ => rfl)) (pe_ix (ix_K (K := K) rfl) (pv 5) (pe_un un_neg pe_int) (fun _ _ => rfl))) (pe_call (ok_l_common T) (hr.mono (by decide)) (by rfl) T.g_l_common T.F_l_common.kp (b_l_common T) .nil pass0 (pa_cons (pe_ix (ix_K (K := K) rfl) (pv 5) (pe_un un_neg pe_int) (fun _ _ => rfl)) (pa_cons (pe_ix (ix_K (K := K) rfl) (pv 5) (pe_un un_neg pe_int) (fun _ _ => rfl)) pa_nil)))) (nomark _))))) (pss_one (ps_set (i := 2) sc_l_lengths.nd rfl (by first | exact Or.inl rfl | exact Or.inr rfl) (pv 5))) pss_nil)))))
 (pss_one (ps_ret (pv 2))))), ?_⟩
  exact (imp_seq (imp_asg (imp_lst imp_nil) (imp_gN 2))
 (imp_seq (imp_for (imp_r1 (imp_cons (imp_op d_add imp_int (imp_callD (F := F_l_draw) (i := 0) (imp_cons imp_int imp_nil))) imp_nil)) (imp_gN 3)
 (imp_then [3, 4, 5] (imp_seq (imp_asg (imp_op d_add imp_int (imp_callD (F := F_l_draw) (i := 0) (imp_cons (imp_callD (F := F_l_of) (i := 0) (imp_cons (imp_lst (imp_cons (imp_v 1) (imp_cons (imp_v 1) (imp_cons (imp_cb d_maxS (imp_cons imp_int (imp_cons (imp_op d_fdiv (imp_v 1) imp_int) imp_nil))) (imp_cons (imp_cb d_minS (imp_cons (imp_v 1) (imp_cons imp_int imp_nil))) imp_nil))))) imp_nil)) imp_nil))) (imp_gN 4))
 (imp_seq (imp_asg (imp_ofL (imp_sortSetL (imp_op d_add (imp_v 2) (imp_lst (imp_cons (imp_v 4) imp_nil))))) (imp_gN 5))
 (imp_if (imp_or (imp_test (imp_op d_lt (imp_cb d_len (imp_cons (imp_v 5) imp_nil)) imp_int)) (imp_test (imp_op d_ge (imp_v 1) (imp_op d_sub (imp_op d_add (imp_op d_ix (imp_v 5) (imp_un d_neg imp_int)) (imp_op d_ix (imp_v 5) (imp_un d_neg imp_int))) (imp_call (F := F_l_common) (imp_cons (imp_op d_ix (imp_v 5) (imp_un d_neg imp_int)) (imp_cons (imp_op d_ix (imp_v 5) (imp_un d_neg imp_int)) imp_nil)))))))
 (imp_asg (imp_v 5) (imp_gN 2))
 imp_next)))))
 (imp_ret (imp_v 2))))
theorem ok_l_signed (T : TX K mg) : FnOk P w K mg base CX0 3 T.f_l_signed T.d_l_signed ["draws", "places_d"] (spD K F_l_signed) := by
  refine okD (k := 2) (ps := ["places_d"]) (n := 2) T.F_l_signed sc_l_signed rfl fun cdv A outer s H E hr => ⟨_, (pss_cons (ps_set (i := 2) sc_l_signed.nd rfl (by first | exact Or.inl rfl | exact Or.inr rfl) (pe_call (ok_l_of T) (hr.mono (by decide)) (by rfl) T.g_l_of T.F_l_of.kp (b_l_of T) .nil pass0 (pa_cons (pv 0) (pa_cons (pe_lst (pa_cons pe_int (pa_cons pe_int (pa_cons pe_int pa_nil)))) pa_nil))))
 (pss_one (ps_ret (pe_callTy (call_tupleK (K := K) rfl) (by rfl) T.b_tuple (by decide +kernel) (pa_cons (pe_lc (own := [("place", 3)]) (by rfl) sc_l_signed.nd (pi_range1 (by rfl) T.b_range (pa_cons (pv 1) pa_nil)) (blkOk_by (own := [("place", 3)]) (N := N_l_signed) (sc := defScope s_l_signed) (by decide +kernel)) (fun _ _ _ _ _ => (pg_name (i := 3) sc_l_signed.nd rfl (by first | exact Or.inl rfl | exact Or.inr rfl))) (fun _ _ _ _ _ => pts_nil) (fun _ _ _ _ _ => (pe_op op_sub (pe_call (ok_l_draw T) (hr.mono (by decide)) (by rfl) T.g_l_draw T.F_l_draw.kp (b_l_draw T) .nil pass0 (pa_cons (pv 0) (pa_cons (pe_op (op_addK (K := K) rfl) (pe_op (op_mulK (K := K) rfl) pe_int (pv 2)) pe_int) pa_nil))) (pv 2)))) pa_nil))))), ?_⟩
  exact (imp_seq (imp_asg (imp_callD (F := F_l_of) (i := 0) (imp_cons (imp_lst (imp_cons imp_int (imp_cons imp_int (imp_cons imp_int imp_nil)))) imp_nil)) (imp_gN 2))
 (imp_ret (imp_cb d_tuple (imp_cons (imp_ofL (imp_lc (vs := [3]) (imp_r1 (imp_cons (imp_v 1) imp_nil)) (imp_gN 3) (only_N (by decide)) mono_N imp_yes (imp_op d_sub (imp_callD (F := F_l_draw) (i := 0) (imp_cons (imp_op d_add (imp_op d_mul imp_int (imp_v 2)) imp_int) imp_nil)) (imp_v 2)))) imp_nil))))
theorem ok_l_moved (T : TX K mg) : FnOk P w K mg base CX0 2 T.f_l_moved T.d_l_moved ["draws", "row", "by"] (spD K F_l_moved) := by
  refine okD (k := 1) (ps := ["row", "by"]) (n := 5) T.F_l_moved sc_l_moved rfl fun cdv A outer s H E hr => ⟨_, (pss_cons (ps_set (i := 3) sc_l_moved.nd rfl (by first | exact Or.inl rfl | exact Or.inr rfl) (pe_callTy (call_listK (K := K) rfl) (by rfl) T.b_list (by decide +kernel) (pa_cons (pv 1) pa_nil)))
 (pss_cons (ps_if (pt_cmpR op_gt (pv 2) pe_int (nomark _)) (pss_cons (ps_par3 (i := 4) (j := 5) (l := 6) (by rfl) sc_l_moved.nd rfl rfl rfl (by decide) (by decide) (by decide) rfl rfl rfl (pa_cons (pe_call (ok_l_draw T) (hr.mono (by decide)) (by rfl) T.g_l_draw T.F_l_draw.kp (b_l_draw T) .nil pass0 (pa_cons (pv 0) (pa_cons (pv 2) pa_nil))) (pa_cons (pe_call (ok_l_draw T) (hr.mono (by decide)) (by rfl) T.g_l_draw T.F_l_draw.kp (b_l_draw T) .nil pass0 (pa_cons (pv 0) (pa_cons (pv 2) pa_nil))) (pa_cons (pe_op (op_addK (K := K) rfl) pe_int (pe_call (ok_l_draw T) (hr.mono (by decide)) (by rfl) T.g_l_draw T.F_l_draw.kp (b_l_draw T) .nil pass0 (pa_cons (pv 0) (pa_cons pe_int pa_nil)))) pa_nil))) (by rfl))
 (pss_one (ps_for PassesOwn.never rfl (pi_range1 (by rfl) T.b_range (pa_cons (pe_callB (call_lenK (K := K) rfl) (by rfl) T.b_len (by decide +kernel) (pa_cons (pv 1) pa_nil)) pa_nil)) (pg_name (i := 7) sc_l_moved.nd rfl (by first | exact Or.inl rfl | exact Or.inr rfl)) (pss_cons (ps_if (pt_cmpR (op_eqK (K := K) rfl hr.units) (pe_op op_mod (pv 7) (pv 2)) (pv 4) (nomark _)) (pss_one (ps_asg (pe_op (op_addK (K := K) rfl) (pe_ix (ix_K (K := K) rfl) (pv 3) (pv 7) (fun _ _ => rfl)) (pv 6)) (pg_sub (pv 3) (pv 7) set_list))) pss_nil)
 (pss_one (ps_if (pt_cmpR (op_eqK (K := K) rfl hr.units) (pe_op op_mod (pv 7) (pv 2)) (pv 5) (nomark _)) (pss_one (ps_asg (pe_op op_sub (pe_ix (ix_K (K := K) rfl) (pv 3) (pv 7) (fun _ _ => rfl)) (pv 6)) (pg_sub (pv 3) (pv 7) set_list))) pss_nil)))))) pss_nil)
 (pss_one (ps_ret (pe_callTy (call_tupleK (K := K) rfl) (by rfl) T.b_tuple (by decide +kernel) (pa_cons (pv 3) pa_nil)))))), ?_⟩
  exact (imp_seq (imp_asgL 3 (imp_listOf (imp_cons (imp_v 1) imp_nil)))
 (imp_seq (imp_if (imp_test (imp_op d_gt (imp_v 2) imp_int))
 (imp_then [4, 5, 6] (imp_seq (imp_many3 (imp_avP (imp_callD (F := F_l_draw) (i := 0) (imp_cons (imp_v 2) imp_nil)) (imp_avP (imp_callD (F := F_l_draw) (i := 0) (imp_cons (imp_v 2) imp_nil)) (imp_avP (imp_op d_add imp_int (imp_callD (F := F_l_draw) (i := 0) (imp_cons imp_int imp_nil))) imp_avNil))))
 (imp_for (imp_r1 (imp_cons (imp_cb d_len (imp_cons (imp_v 1) imp_nil)) imp_nil)) (imp_gN 7)
 (imp_then [7] (imp_seq (imp_if (imp_test (imp_op d_eq (imp_op d_mod (imp_v 7) (imp_v 2)) (imp_v 4)))
 (imp_setI (i := 3) (imp_v 7) (imp_op d_add (imp_ixO (i := 3) (imp_v 7)) (imp_v 6)))
 imp_next)
 (imp_if (imp_test (imp_op d_eq (imp_op d_mod (imp_v 7) (imp_v 2)) (imp_v 5)))
 (imp_setI (i := 3) (imp_v 7) (imp_op d_sub (imp_ixO (i := 3) (imp_v 7)) (imp_v 6)))
 imp_next))))))
 imp_next)
 (imp_frz 3 (imp_ret (imp_cb d_tuple (imp_cons (imp_v 3) imp_nil))))))
theorem ok_l_bent (T : TX K mg) : FnOk P w K mg base CX0 3 T.f_l_bent T.d_l_bent ["draws", "told_d"] (spD K F_l_bent) := by
  refine okD (k := 2) (ps := ["told_d"]) (n := 4) T.F_l_bent sc_l_bent rfl fun cdv A outer s H E hr => ⟨_, (pss_cons (ps_set (i := 2) sc_l_bent.nd rfl (by first | exact Or.inl rfl | exact Or.inr rfl) (pe_call (ok_l_draw T) (hr.mono (by decide)) (by rfl) T.g_l_draw T.F_l_draw.kp (b_l_draw T) .nil pass0 (pa_cons (pv 0) (pa_cons (pe_callB (call_lenK (K := K) rfl) (by rfl) T.b_len (by decide +kernel) (pa_cons (pv 1) pa_nil)) pa_nil))))
 (pss_cons (ps_set (i := 3) sc_l_bent.nd rfl (by first | exact Or.inl rfl | exact Or.inr rfl) (pe_callTy (call_listK (K := K) rfl) (by rfl) T.b_list (by decide +kernel) (pa_cons (pe_ix (ix_K (K := K) rfl) (pe_ix (ix_K (K := K) rfl) (pv 1) (pv 2) (fun _ _ => rfl)) pe_int (fun _ _ => rfl)) pa_nil)))
 (pss_cons (ps_for PassesOwn.never rfl (pi_range1 (by rfl) T.b_range (pa_cons (pe_op (op_addK (K := K) rfl) pe_int (pe_call (ok_l_draw T) (hr.mono (by decide)) (by rfl) T.g_l_draw T.F_l_draw.kp (b_l_draw T) .nil pass0 (pa_cons (pv 0) (pa_cons pe_int pa_nil)))) pa_nil)) (pg_name (i := 4) sc_l_bent.nd rfl (by first | exact Or.inl rfl | exact Or.inr rfl)) (pss_cons (ps_set (i := 5) sc_l_bent.nd rfl (by first | exact Or.inl rfl | exact Or.inr rfl) (pe_call (ok_l_draw T) (hr.mono (by decide)) (by rfl) T.g_l_draw T.F_l_draw.kp (b_l_draw T) .nil pass0 (pa_cons (pv 0) (pa_cons (pe_callB (call_lenK (K := K) rfl) (by rfl) T.b_len (by decide +kernel) (pa_cons (pv 3) pa_nil)) pa_nil))))
 (pss_one (ps_asg (pe_op (op_addK (K := K) rfl) (pe_ix (ix_K (K := K) rfl) (pv 3) (pv 5) (fun _ _ => rfl)) (pe_call (ok_l_of T) (hr.mono (by decide)) (by rfl) T.g_l_of T.F_l_of.kp (b_l_of T) .nil pass0 (pa_cons (pv 0) (pa_cons (pe_lst (pa_cons pe_int (pa_cons (pe_un un_neg pe_int) (pa_cons pe_int (pa_cons pe_int pa_nil))))) pa_nil)))) (pg_sub (pv 3) (pv 5) set_list)))))
 (pss_one (ps_ret (pe_op (op_addK (K := K) rfl) (pe_op (op_addK (K := K) rfl) (pe_slice (sl_K (K := K) rfl) (pv 1) po_none (po_some (pv 2))) (pe_tup (pa_cons (pe_tup (pa_cons (pe_ix (ix_K (K := K) rfl) (pe_ix (ix_K (K := K) rfl) (pv 1) (pv 2) (fun _ _ => rfl)) pe_int (fun _ _ => rfl)) (pa_cons (pe_callTy (call_tupleK (K := K) rfl) (by rfl) T.b_tuple (by decide +kernel) (pa_cons (pv 3) pa_nil)) pa_nil))) pa_nil))) (pe_slice (sl_K (K := K) rfl) (pv 1) (po_some (pe_op (op_addK (K := K) rfl) (pv 2) pe_int)) po_none))))))), ?_⟩
  exact (imp_seq (imp_asg (imp_callD (F := F_l_draw) (i := 0) (imp_cons (imp_cb d_len (imp_cons (imp_v 1) imp_nil)) imp_nil)) (imp_gN 2))
 (imp_seq (imp_asgL 3 (imp_listOf (imp_cons (imp_op d_ix (imp_op d_ix (imp_v 1) (imp_v 2)) imp_int) imp_nil)))
 (imp_seq (imp_for (imp_r1 (imp_cons (imp_op d_add imp_int (imp_callD (F := F_l_draw) (i := 0) (imp_cons imp_int imp_nil))) imp_nil)) (imp_gN 4)
 (imp_then [4, 5] (imp_seq (imp_asg (imp_callD (F := F_l_draw) (i := 0) (imp_cons (imp_fl 3 (imp_cb d_len (imp_cons (imp_v 3) imp_nil))) imp_nil)) (imp_gN 5))
 (imp_setI (i := 3) (imp_v 5) (imp_op d_add (imp_ixO (i := 3) (imp_v 5)) (imp_callD (F := F_l_of) (i := 0) (imp_cons (imp_lst (imp_cons imp_int (imp_cons (imp_un d_neg imp_int) (imp_cons imp_int (imp_cons imp_int imp_nil))))) imp_nil)))))))
 (imp_frz 3 (imp_ret (imp_op d_add (imp_op d_add (imp_sl d_sl (imp_v 1) imp_noP (imp_p (imp_v 2))) (imp_tup (imp_cons (imp_tup (imp_cons (imp_op d_ix (imp_op d_ix (imp_v 1) (imp_v 2)) imp_int) (imp_cons (imp_cb d_tuple (imp_cons (imp_v 3) imp_nil)) imp_nil))) imp_nil))) (imp_sl d_sl (imp_v 1) (imp_p (imp_op d_add (imp_v 2) imp_int)) imp_noP)))))))
theorem ok_l_told_so (T : TX K mg) : FnOk P w K mg base CX0 5 T.f_l_told_so T.d_l_told_so ["places_d", "told_d"] (spP K F_l_told_so) := by
  refine okP (k := 4) (ps := ["places_d", "told_d"]) (n := 7) T.F_l_told_so sc_l_told_so rfl fun cdv A outer s H E hr => ⟨_, (pss_cons (ps_par (i := 2) (j := 3) (by rfl) sc_l_told_so.nd rfl rfl (by decide) rfl rfl (pa_cons (pe_call (ok_as_one T) (hr.mono (by decide)) (by rfl) T.g_as_one T.F_as_one.kp (b_as_one T) .nil pass0 (pa_cons (pv 0) (pa_cons (pv 1) pa_nil))) (pa_cons (pe_call (ok_weights T) (hr.mono (by decide)) (by rfl) T.g_weights T.F_weights.kp (b_weights T) .nil pass0 (pa_cons (pv 0) (pa_cons (pv 1) pa_nil))) pa_nil)) (by rfl))
 (pss_cons (ps_if (pt_cmpR (op_eqK (K := K) rfl hr.units) (pe_cmpR op_isN (pv 2) pe_non (nomark _)) (pe_cmpR op_isN (pv 3) pe_non (nomark _)) (nomark _)) (pss_one (ps_ret pe_bl)) pss_nil)
 (pss_cons (ps_if (pt_cmpR op_notN (pv 3) pe_non (nomark _)) (pss_one (ps_ret (pe_and (pe_call (ok_l_are_weights T) (hr.mono (by decide)) (by rfl) T.g_l_are_weights T.F_l_are_weights.kp (b_l_are_weights T) .nil pass0 (pa_cons (pv 0) (pa_cons (pv 1) (pa_cons (pv 3) pa_nil)))) (pe_one (pe_cmpR op_isBl (pe_call (ok_are_weights T) (hr.mono (by decide)) (by rfl) T.g_are_weights T.F_are_weights.kp (b_are_weights T) .nil pass0 (pa_cons (pv 0) (pa_cons (pv 1) (pa_cons (pv 3) pa_nil)))) pe_bl (nomark _)))))) pss_nil)
 (pss_cons (ps_asg (pv 2) (pg_tupK (K := K) (n := 2) rfl (by rfl) (pgs_cons (pg_name (i := 4) sc_l_told_so.nd rfl (by first | exact Or.inl rfl | exact Or.inr rfl)) (pgs_cons (pg_name (i := 5) sc_l_told_so.nd rfl (by first | exact Or.inl rfl | exact Or.inr rfl)) pgs_nil))))
 (pss_cons (ps_if (PW.pt (pw_or (pt_cmpR (op_neK (K := K) rfl hr.units) (pe_lc (own := [("length", 7), ("some", 8)]) (by rfl) sc_l_told_so.nd (pi_tupleK (K := K) rfl (pv 1)) (blkOk_by (own := [("length", 7), ("some", 8)]) (N := N_l_told_so) (sc := defScope s_l_told_so) (by decide +kernel)) (fun _ _ _ _ _ => (pg_tupK (K := K) (n := 2) rfl (by rfl) (pgs_cons (pg_name (i := 7) sc_l_told_so.nd rfl (by first | exact Or.inl rfl | exact Or.inr rfl)) (pgs_cons (pg_name (i := 8) sc_l_told_so.nd rfl (by first | exact Or.inl rfl | exact Or.inr rfl)) pgs_nil)))) (fun _ _ _ _ _ => (pts_one (pt_cmpR (op_neK (K := K) rfl hr.units) (pe_op op_mod (pv 7) (pv 4)) pe_int (nomark _)))) (fun _ _ _ _ _ => (pv 7))) (pe_lst pa_nil) (nomark _)) (pw_or1 (pt_cmpR (op_neK (K := K) rfl hr.units) (pe_callB (call_lenK (K := K) rfl) (by rfl) T.b_len (by decide +kernel) (pa_cons (pv 5) pa_nil)) (pe_op (op_addK (K := K) rfl) (pe_op op_sub (pv 0) (pv 4)) pe_int) (nomark _))))) (pss_one (ps_ret pe_bl)) pss_nil)
 (pss_cons (ps_set (i := 6) sc_l_told_so.nd rfl (by first | exact Or.inl rfl | exact Or.inr rfl) (pe_call (ok_l_grown T) (hr.mono (by decide)) (by rfl) T.g_l_grown T.F_l_grown.kp (b_l_grown T) .nil pass0 (pa_cons (pv 0) (pa_cons (pv 4) (pa_cons (pv 5) (pa_cons (pe_op (op_addK (K := K) rfl) (pe_tup (pa_cons (pe_ix (ix_K (K := K) rfl) (pv 5) pe_int (fun _ _ => rfl)) pa_nil)) (pe_op (op_mulK (K := K) rfl) (pe_tup (pa_cons pe_int pa_nil)) (pe_op op_sub (pv 4) pe_int))) pa_nil))))))
 (pss_one (ps_ret (pe_cmpR (op_eqK (K := K) rfl hr.units) (pe_lc (own := [("length", 7), ("some", 8)]) (by rfl) sc_l_told_so.nd (pi_tupleK (K := K) rfl (pv 1)) (blkOk_by (own := [("length", 7), ("some", 8)]) (N := N_l_told_so) (sc := defScope s_l_told_so) (by decide +kernel)) (fun _ _ _ _ _ => (pg_tupK (K := K) (n := 2) rfl (by rfl) (pgs_cons (pg_name (i := 7) sc_l_told_so.nd rfl (by first | exact Or.inl rfl | exact Or.inr rfl)) (pgs_cons (pg_name (i := 8) sc_l_told_so.nd rfl (by first | exact Or.inl rfl | exact Or.inr rfl)) pgs_nil)))) (fun _ _ _ _ _ => (pts_one (pt_cmpR (op_neK (K := K) rfl hr.units) (pe_call (ok_l_counts T) (hr.mono (by decide)) (by rfl) T.g_l_counts T.F_l_counts.kp (b_l_counts T) .nil pass0 (pa_cons (pv 6) (pa_cons (pv 7) pa_nil))) (pv 8) (nomark _)))) (fun _ _ _ _ _ => pe_int)) (pe_lst pa_nil) (nomark _)))))))))), ?_⟩
  exact (imp_seq (imp_many2 (imp_avP (imp_call (F := F_as_one) (imp_cons (imp_v 0) (imp_cons (imp_v 1) imp_nil))) (imp_avP (imp_call (F := F_weights) (imp_cons (imp_v 0) (imp_cons (imp_v 1) imp_nil))) imp_avNil)))
 (imp_seq (imp_if (imp_test (imp_op d_eq (imp_op d_isN (imp_v 2) imp_non) (imp_op d_isN (imp_v 3) imp_non)))
 (imp_ret imp_bl)
 imp_next)
 (imp_seq (imp_if (imp_test (imp_op d_notN (imp_v 3) imp_non))
 (imp_ret (imp_andV (imp_call (F := F_l_are_weights) (imp_cons (imp_v 0) (imp_cons (imp_v 1) (imp_cons (imp_v 3) imp_nil)))) (imp_op d_isB (imp_call (F := F_are_weights) (imp_cons (imp_v 0) (imp_cons (imp_v 1) (imp_cons (imp_v 3) imp_nil)))) imp_bl)))
 imp_next)
 (imp_seq (imp_asg (imp_v 2) (imp_gTup (imp_gCons (imp_gN 4) (imp_gCons (imp_gN 5) imp_gNil)) (qCons_len (qCons_len qNil_len))))
 (imp_seq (imp_if (imp_or (imp_test (imp_op d_ne (imp_ofL (imp_lc (vs := [7, 8]) (imp_iT (imp_v 1)) (imp_gTup (imp_gCons (imp_gN 7) (imp_gCons (imp_gN 8) imp_gNil)) (qCons_len (qCons_len qNil_len))) (only_tup (only_cons (only_N (by decide)) (only_cons (only_N (by decide)) only_nil mono_N mono_nil) mono_N (mono_cons mono_N mono_nil))) (mono_tup (mono_cons mono_N (mono_cons mono_N mono_nil))) (imp_test (imp_op d_ne (imp_op d_mod (imp_v 7) (imp_v 4)) imp_int)) (imp_v 7))) (imp_lst imp_nil))) (imp_test (imp_op d_ne (imp_cb d_len (imp_cons (imp_v 5) imp_nil)) (imp_op d_add (imp_op d_sub (imp_v 0) (imp_v 4)) imp_int))))
 (imp_ret imp_bl)
 imp_next)
 (imp_seq (imp_asg (imp_call (F := F_l_grown) (imp_cons (imp_v 0) (imp_cons (imp_v 4) (imp_cons (imp_v 5) (imp_cons (imp_op d_add (imp_tup (imp_cons (imp_op d_ix (imp_v 5) imp_int) imp_nil)) (imp_op d_mul (imp_tup (imp_cons imp_int imp_nil)) (imp_op d_sub (imp_v 4) imp_int))) imp_nil))))) (imp_gN 6))
 (imp_ret (imp_op d_eq (imp_ofL (imp_lc (vs := [7, 8]) (imp_iT (imp_v 1)) (imp_gTup (imp_gCons (imp_gN 7) (imp_gCons (imp_gN 8) imp_gNil)) (qCons_len (qCons_len qNil_len))) (only_tup (only_cons (only_N (by decide)) (only_cons (only_N (by decide)) only_nil mono_N mono_nil) mono_N (mono_cons mono_N mono_nil))) (mono_tup (mono_cons mono_N (mono_cons mono_N mono_nil))) (imp_test (imp_op d_ne (imp_call (F := F_l_counts) (imp_cons (imp_v 6) (imp_cons (imp_v 7) imp_nil))) (imp_v 8))) imp_int)) (imp_lst imp_nil)))))))))
theorem ok_l_draws (T : TX K mg) : FnOk P w K mg base CX0 1 T.f_l_draws T.d_l_draws ["script", "k"] (spCell K cellF) := by
  refine T.F_l_draws.ok sc_l_draws (fun vs H Q E h => ?_) (fun cdv A outer s H vs Q E hr h => ?_)
  · obtain ⟨a, ns, k, c, rfl, _⟩ := h
    rfl
  obtain ⟨a, ns, k, c, rfl, hS, hF, q⟩ := h
  refine ⟨_, (pss_cons (ps_set (i := 2) sc_l_draws.nd rfl (by first | exact Or.inl rfl | exact Or.inr rfl) (pe_op (op_mulK (K := K) rfl) pe_int (pv 1)))
 (pss_cons (ps_if (pt_cmpR op_lt (pv 1) (pe_callB (call_lenK (K := K) rfl) (by rfl) T.b_len (by decide +kernel) (pa_cons (pv 0) pa_nil)) (nomark _)) (pss_one (ps_set (i := 2) sc_l_draws.nd rfl (by first | exact Or.inl rfl | exact Or.inr rfl) (pe_op op_mod (pe_ix (ix_K (K := K) rfl) (pv 0) (pv 1) (fun _ _ => rfl)) (pe_op (op_mulK (K := K) rfl) (pe_op (op_mulK (K := K) rfl) (pe_op (op_mulK (K := K) rfl) (pe_op (op_mulK (K := K) rfl) (pe_op op_pow pe_int pe_int) (pe_op op_pow pe_int pe_int)) (pe_op op_pow pe_int pe_int)) (pe_op op_pow pe_int pe_int)) (pe_op op_pow pe_int pe_int))))) (pss_one (ps_if (pt_cmpR op_gt (pe_callB (call_lenK (K := K) rfl) (by rfl) T.b_len (by decide +kernel) (pa_cons (pv 0) pa_nil)) pe_int (nomark _)) (pss_one (ps_set (i := 2) sc_l_draws.nd rfl (by first | exact Or.inl rfl | exact Or.inr rfl) (pe_op (op_addK (K := K) rfl) (pe_op op_mod (pe_ix (ix_K (K := K) rfl) (pv 0) (pe_op op_mod (pv 1) (pe_callB (call_lenK (K := K) rfl) (by rfl) T.b_len (by decide +kernel) (pa_cons (pv 0) pa_nil))) (fun _ _ => rfl)) (pe_op op_pow pe_int pe_int)) (pe_op (op_mulK (K := K) rfl) pe_int (pv 1))))) pss_nil)))
 (pss_one (ps_ret (pe_lst (pa_cons (pe_op (op_mulK (K := K) rfl) (pv 2) (pe_callTy call_int1 (by rfl) T.b_int (by decide +kernel) (pa_cons (pe_cmpR op_ge (pv 2) (pe_op op_pow pe_int pe_int) (nomark _)) pa_nil))) (pa_cons (pe_op (op_addK (K := K) rfl) pe_int (pe_op op_mod (pe_op (op_addK (K := K) rfl) (pe_op (op_mulK (K := K) rfl) (pv 2) pe_int) (pe_op (op_mulK (K := K) rfl) pe_int (pe_op (op_addK (K := K) rfl) (pv 1) pe_int))) pe_int)) pa_nil))))))), ?_⟩
  exact draws_read rfl hS hF q


end
end X
namespace X
open PySem PySem.Spec L2 DL DM
theorem mulI1 {a b : Int} (h : a.natAbs < 18446744073709551616) : mulD (.int a) (.int b) = some (.int (a * b)) := by
  show (if midI a = true ∨ midI b = true ∨ a.natAbs.log2 + b.natAbs.log2 < 1000000 then some (PyData.int (a * b)) else none) = _
  rw [if_pos (.inl (decide_eq_true h))]
theorem mulI2 {a b : Int} (h : b.natAbs < 18446744073709551616) : mulD (.int a) (.int b) = some (.int (a * b)) := by
  show (if midI a = true ∨ midI b = true ∨ a.natAbs.log2 + b.natAbs.log2 < 1000000 then some (PyData.int (a * b)) else none) = _
  rw [if_pos (.inr (.inl (decide_eq_true h)))]
theorem fdivI {a b : Int} (h : 0 < b) (h2 : b.natAbs < 1073741824) : fdivD (.int a) (.int b) = some (.int (a / b)) := by
  show (if 0 < b ∧ b.natAbs < 1073741824 then some (PyData.int (a / b)) else none) = _
  rw [if_pos ⟨h, h2⟩]
theorem modI {a b : Int} (h : 0 < b) : modD (.int a) (.int b) = some (.int (a % b)) := by
  rw [ev_modII, if_pos h]
/-- a draw -/
def DrawTo (m : Int) : D → Dr → Prop := fun d c' => ∃ r : Int, d = .int r ∧ 0 ≤ r ∧ r < m ∧ OkDr c'
theorem F_l_draw_eq {m : Int} {c : Dr} (hm : 1 ≤ m) (hm2 : m ≤ 268435456) (hc : OkDr c) : ∃ d c', F_l_draw [.int m] c = some (d, c') ∧ DrawTo m d c' := by
  obtain ⟨h1, h2, h3, h4⟩ := hc
  refine bodyD_of rfl ?_
  unfold S_l_draw
  have hq : (c.1 % m).natAbs < 1073741824 := by
    have := Int.emod_nonneg c.1 (show m ≠ 0 by omega)
    have := Int.emod_lt_of_pos c.1 (show 0 < m by omega)
    omega
  by_cases h : 0 < c.1
  · refine ⟨(.rt (.int (c.1 % m)), [.dr, .im (.int m), .im (.int (c.1 % m)), .un], (c.1 / m, c.2)), ?_, .int (c.1 % m), rfl, c.1 % m, rfl, Int.emod_nonneg _ (by omega), Int.emod_lt_of_pos _ (by omega), ?_⟩
    · refine seq_rt (DL.ifT (c1 := c) ?_ ?_)
      · simp [h]
      · simp [modI (show 0 < m by omega), fdivI (show 0 < m by omega) (show m.natAbs < 1073741824 by omega), show 0 < m by omega]
    · refine ⟨Int.ediv_nonneg (by omega) (by omega), h2, h3, ?_⟩
      have := Int.ediv_le_self m h1
      show c.1 / m < _
      omega
  · refine .pass (c1 := c) (by simp [h]) ?_
    by_cases hm1 : m = 1
    · subst hm1
      refine ⟨(.rt (.int 0), [.dr, .im (.int 1), .im (.int 0), .im (.int 1)], c), ?_, .int 0, rfl, 0, rfl, by omega, by omega, h1, h2, h3, h4⟩
      simp [whileS]
    · have g1 : 1 < m := by omega
      have e1 : mulD (.int c.2) (.int 69621) = some (.int (c.2 * 69621)) := mulI2 (by decide)
      have z1 : 0 ≤ c.2 * 69621 % 2147483647 ∧ c.2 * 69621 % 2147483647 < 2147483647 := by omega
      generalize ez : c.2 * 69621 % 2147483647 = z at z1
      have e2 : mulD (.int z) (.int (z / 128 + 3)) = some (.int (z * (z / 128 + 3))) := mulI1 (by omega)
      have e3 : mulD (.int 0) (.int 268435456) = some (.int 0) := mulI2 (by decide)
      have e4 : mulD (.int 1) (.int 268435456) = some (.int 268435456) := mulI2 (by decide)
      have e5 : ∀ a, fdivD (.int a) (.int 128) = some (.int (a / 128)) := fun a => fdivI (by decide) (by decide)
      have e6 : ∀ a, fdivD (.int a) (.int 8) = some (.int (a / 8)) := fun a => fdivI (by decide) (by decide)
      have g2 : ¬ (268435456 : Int) < m := by omega
      have g3 : (0 : Int) < m := by omega
      refine ⟨(.rt (.int ((z * (z / 128 + 3) % 2147483629 / 8) % m)), [.dr, .im (.int m), .im (.int (z * (z / 128 + 3) % 2147483629 / 8)), .im (.int 268435456)], (c.1, z)), ?_, _, rfl, _, rfl, Int.emod_nonneg _ (by omega), Int.emod_lt_of_pos _ (by omega), h1, z1.1, z1.2, h4⟩
      simp [whileS, g1, g2, g3, e1, e2, e3, e4, e5, e6, ez]
theorem F_l_of_eq {ds : List D} {c : Dr} (h1 : 1 ≤ ds.length) (h2 : ds.length ≤ 1000000) (hc : OkDr c) : ∃ d c', F_l_of [.list ds] c = some (d, c') ∧ d ∈ ds ∧ OkDr c' := by
  obtain ⟨d, c', e, r, rfl, r0, r1, ok⟩ := F_l_draw_eq (m := (ds.length : Int)) (c := c) (by omega) (by omega) hc
  obtain ⟨k, rfl⟩ : ∃ k : Nat, r = k := ⟨r.toNat, by omega⟩
  have hk : k < ds.length := by omega
  refine bodyD_of (P := fun d c' => d ∈ ds ∧ OkDr c') rfl ?_
  unfold S_l_of
  refine ⟨(.rt ds[k], [.dr, .im (.list ds)], c'), ?_, ds[k], rfl, List.getElem_mem hk, ok⟩
  simp [e, atI_nil hk]
theorem ints_of {R : Int → Prop} : ∀ {ds : List D}, (∀ d ∈ ds, ∃ r, d = .int r ∧ R r) → ∃ xs, ds = iL xs ∧ ∀ x ∈ xs, R x
  | [], _ => ⟨[], rfl, fun _ h => by cases h⟩
  | d :: ds, h => by
    obtain ⟨r, rfl, hr⟩ := h d List.mem_cons_self
    obtain ⟨xs, rfl, hx⟩ := ints_of fun e he => h e (List.mem_cons_of_mem _ he)
    refine ⟨r :: xs, rfl, fun x hx' => ?_⟩
    rcases List.mem_cons.mp hx' with z | z
    · rw [z]; exact hr
    · exact hx x z
theorem gI_mem {xs : List Int} {i : Nat} (h : i < xs.length) : gI xs i ∈ xs := by
  unfold gI
  simp [List.getD, h]
theorem ixN_nat {n k : Nat} (h : k < n) : ixN n (k : Int) = some k := by
  unfold ixN
  rw [if_pos (by omega), if_pos (by omega)]
  rw [Int.toNat_natCast]
theorem F_l_counts_eq {f : Nat} {row : List Int} (hf : 1 ≤ f) (hP : f ≤ row.length) (h3 : row.length ≤ 1000) : F_l_counts [.tuple (iL row), .int f] = some (.tuple (iL (csL f row))) := by
  refine bodyP_of rfl ?_
  unfold S_l_counts
  refine .seq (ρ1 := [.im (.tuple (iL row)), .im (.int f), .ol [], .un, .un, .un]) (c1 := (0, 0)) (by simp [few]) ?_
  refine .seq (for_run (c1 := (0, 0)) (xs := rngL 0 (row.length - f + 1)) (st := fun i => [.im (.tuple (iL row)), .im (.int f), .ol (iL ((List.range i).map (cnt f (gI row)))), .un, .un, .un]) ?_ rfl fun i x hx => ?_) ?_
  · have e1 : okR ((row.length : Int) - f + 1) = true := okR_of (by omega) (by omega)
    have e2 : ((row.length : Int) - f + 1).toNat = row.length - f + 1 := by omega
    simp [e1, e2]
  · obtain ⟨hi, rfl⟩ := rngL_lt hx
    refine ⟨_, rfl, then_run (ρ1 := [.im (.tuple (iL row)), .im (.int f), .ol (iL ((List.range (i + 1)).map (cnt f (gI row)))), .im (.int (0 + i)), .im (.int (cnt f (gI row) i)), .un]) ?_ rfl⟩
    refine seq_run (ρ1 := [.im (.tuple (iL row)), .im (.int f), .ol (iL ((List.range i).map (cnt f (gI row)))), .im (.int (0 + i)), .im (.int 0), .un]) (c1 := (0, 0)) (by simp) ?_
    refine seq_run (for_run (c1 := (0, 0)) (xs := rngL (i : Int) f) (st := fun j => [.im (.tuple (iL row)), .im (.int f), .ol (iL ((List.range i).map (cnt f (gI row)))), .im (.int (0 + i)), .im (.int (sumN j fun j => gI row (i + j))), .un]) ?_ rfl fun j y hy => ?_) ?_
    · have e1 : okR (i : Int) = true := okR_of (by omega) (by omega)
      have e2 : okR ((i : Int) + f) = true := okR_of (by omega) (by omega)
      have e3 : ((i : Int) + f - i).toNat = f := by omega
      simp [e1, e2, e3]
    · obtain ⟨hj, rfl⟩ := rngL_lt hy
      refine ⟨_, rfl, then_run (ρ1 := [.im (.tuple (iL row)), .im (.int f), .ol (iL ((List.range i).map (cnt f (gI row)))), .im (.int (0 + i)), .im (.int (sumN (j + 1) fun j => gI row (i + j))), .im (.int (i + j))]) ?_ rfl⟩
      have e1 : atI (iL row) ((i : Int) + j) = some (.int (gI row (i + j))) := atI_iL (j := i + j) (by omega)
      simp [e1]
      rfl
    · rw [rngL_len]
      have e1 : few i = true := few_of (by omega)
      have e2 : iL ((List.range (i + 1)).map (cnt f (gI row))) = iL ((List.range i).map (cnt f (gI row))) ++ [.int (cnt f (gI row) i)] := by rw [List.range_succ, List.map_append, iL_app]; rfl
      rw [e2]
      simp [e1]
      rfl
  · rw [rngL_len]
    exact .frz rfl (.ret (d := .tuple (iL (csL f row))) (c1 := (0, 0)) (by simp; rfl) rfl)
/-- a whole number from lo to hi -/
def btw (lo hi : Int) : D → Bool
  | .int i => decide (lo ≤ i) && decide (i ≤ hi)
  | _ => false
theorem F_is_between_eq {d : D} {lo hi : Int} : F_is_between [d, .int lo, .int hi] = some (.bool (btw lo hi d)) := by
  refine bodyP_of rfl ?_
  unfold S_is_between
  cases d with
  | int x =>
    have e1 : isB .int (.int x) = true := rfl
    have e2 : isB .bool (.int x) = false := rfl
    by_cases h : lo ≤ x
    · exact .ret (c1 := (0, 0)) (by simp [e1, e2, h]; rfl) (by simp [h, btw])
    · exact .ret (c1 := (0, 0)) (by simp [e1, e2, h]; rfl) (by simp [h, btw])
  | bool b =>
    have e1 : isB .int (.bool b) = true := rfl
    have e2 : isB .bool (.bool b) = true := rfl
    exact .ret (c1 := (0, 0)) (by simp [e1, e2]; rfl) (by simp [btw])
  | none =>
    have e1 : isB .int .none = false := rfl
    exact .ret (c1 := (0, 0)) (by simp [e1]; rfl) (by simp [btw])
  | str x =>
    have e1 : isB .int (.str x) = false := rfl
    exact .ret (c1 := (0, 0)) (by simp [e1]; rfl) (by simp [btw])
  | list x =>
    have e1 : isB .int (.list x) = false := rfl
    exact .ret (c1 := (0, 0)) (by simp [e1]; rfl) (by simp [btw])
  | tuple x =>
    have e1 : isB .int (.tuple x) = false := rfl
    exact .ret (c1 := (0, 0)) (by simp [e1]; rfl) (by simp [btw])
  | dict x =>
    have e1 : isB .int (.dict x) = false := rfl
    exact .ret (c1 := (0, 0)) (by simp [e1]; rfl) (by simp [btw])
theorem F_l_is_whole_eq {d : D} {lo hi : Int} : F_l_is_whole [d, .int lo, .int hi] = some (.bool (btw lo hi d)) := F_is_between_eq
theorem allD_map {xs : List D} {g : D → Bool} : allD [.list (xs.map fun d => .bool (g d))] = some (.bool (xs.all g)) := by
  have e : (xs.map fun d => PyData.bool (g d)) = (xs.map g).map PyData.bool := by rw [List.map_map]; rfl
  rw [e]
  show (boolsD _).map _ = _
  rw [boolsD_map]
  show some (PyData.bool ((xs.map g).all id)) = _
  rw [List.all_map]; rfl
/-- the items of a tuple -/
def tupOf : D → Option (List D)
  | .tuple xs => some xs
  | _ => none
theorem isTup_no {d : D} (h : tupOf d = none) : isB .tuple d = false := by
  cases d with
  | tuple xs => cases h
  | _ => rfl
theorem isTup_yes {xs : List D} : isB .tuple (.tuple xs) = true := rfl
theorem tup_cases (d : D) : (∃ xs, d = .tuple xs) ∨ tupOf d = none := by
  cases d with
  | tuple xs => exact .inl ⟨xs, rfl⟩
  | _ => exact .inr rfl
theorem forS_rt {tg : D → Rho → Option Rho} {body : SS} {d : D} (bad : D → Bool) : ∀ {xs : List D} (st : Nat → Rho) (c : Dr), (∀ i x, xs[i]? = some x → bad x = false → ∃ ρ1, tg x (st i) = some ρ1 ∧ body ρ1 c = some (.nx, st (i + 1), c)) → (∀ i x, xs[i]? = some x → bad x = true → ∃ ρ1 ρ2, tg x (st i) = some ρ1 ∧ body ρ1 c = some (.rt d, ρ2, c)) →
    if xs.all (fun x => !bad x) = true then forS tg body xs (st 0) c = some (.nx, st xs.length, c) else ∃ ρ', forS tg body xs (st 0) c = some (.rt d, ρ', c)
  | [], st, c, _, _ => rfl
  | x :: xs, st, c, h1, h2 => by
    rw [List.all_cons]
    cases hb : bad x with
    | true =>
      obtain ⟨ρ1, ρ2, e1, e2⟩ := h2 0 x rfl hb
      refine ⟨ρ2, ?_⟩
      show ((tg x (st 0)).bind fun ρ1 => _) = _
      rw [e1]
      show ((body ρ1 c).bind fun r => _) = _
      rw [e2]; rfl
    | false =>
      obtain ⟨ρ1, e1, e2⟩ := h1 0 x rfl hb
      have ih := forS_rt bad (xs := xs) (d := d) (tg := tg) (body := body) (fun i => st (i + 1)) c (fun i y e => h1 (i + 1) y e) (fun i y e => h2 (i + 1) y e)
      have go : forS tg body (x :: xs) (st 0) c = forS tg body xs (st 1) c := by
        show ((tg x (st 0)).bind fun ρ1 => _) = _
        rw [e1]
        show ((body ρ1 c).bind fun r => _) = _
        rw [e2]; rfl
      rw [Bool.not_false, Bool.true_and, go]
      exact ih
/-! told frames -/
abbrev TF := Nat × List Int
def tfD (t : TF) : D := .tuple [.int (t.1 : Int), .tuple (iL t.2)]
def tsD (ts : List TF) : D := .tuple (ts.map tfD)
def TOk (P : Nat) (ts : List TF) : Prop := P ≤ 24 ∧ ts.length ≤ 3 ∧ ∀ t ∈ ts, 1 ≤ t.1 ∧ t.1 ≤ P ∧ t.2.length = P - t.1 + 1 ∧ ∀ x ∈ t.2, -24300 ≤ x ∧ x ≤ 24300
def nN (ts : List TF) (i : Nat) : Nat := (ts.getD i (0, [])).2.length
def cN (ts : List TF) (i : Nat) (j : Nat) : Int := gI (ts.getD i (0, [])).2 j
def fN (ts : List TF) (i : Nat) : Nat := (ts.getD i (0, [])).1
def cv (f q s : Nat) : Int := if s ≤ q ∧ q < s + f then 1 else 0
/-- the sum of all counts, each so often as its weight says -/
def whN (ts : List TF) (w : Nat → Nat → Int) (i j : Nat) : Int := sumN i (fun a => sumN (nN ts a) fun b => w a b * cN ts a b) + sumN j (fun b => w i b * cN ts i b)
/-- the same of a place -/
def smN (ts : List TF) (w : Nat → Nat → Int) (i j q : Nat) : Int := sumN i (fun a => sumN (nN ts a) fun b => w a b * cv (fN ts a) q b) + sumN j (fun b => w i b * cv (fN ts i) q b)
theorem sumN0 {g : Nat → Int} : sumN 0 g = 0 := rfl
theorem sumNs {g : Nat → Int} {n : Nat} : sumN (n + 1) g = sumN n g + g n := rfl
theorem whN_up {ts : List TF} {w : Nat → Nat → Int} {i : Nat} : whN ts w i (nN ts i) = whN ts w (i + 1) 0 := by
  unfold whN; rw [sumNs, sumN0]; omega
theorem smN_up {ts : List TF} {w : Nat → Nat → Int} {i q : Nat} : smN ts w i (nN ts i) q = smN ts w (i + 1) 0 q := by
  unfold smN; rw [sumNs, sumN0]; omega
theorem whN_st {ts : List TF} {w : Nat → Nat → Int} {i j : Nat} : whN ts w i (j + 1) = whN ts w i j + w i j * cN ts i j := by
  unfold whN; rw [sumNs]; omega
theorem smN_st {ts : List TF} {w : Nat → Nat → Int} {i j q : Nat} : smN ts w i (j + 1) q = smN ts w i j q + w i j * cv (fN ts i) q j := by
  unfold smN; rw [sumNs]; omega
def ansN (P : Nat) (ts : List TF) (w : Nat → Nat → Int) : Bool := !decide (whN ts w ts.length 0 = 0) && (List.range P).all fun q => decide (smN ts w ts.length 0 q = 0)
def fL (P : Nat) (S : Nat → Int) : List D := iL ((List.range P).map S)
theorem fL_len {P : Nat} {S : Nat → Int} : (fL P S).length = P := by unfold fL; simp
theorem fL_get {P q : Nat} {S : Nat → Int} (h : q < P) : (fL P S)[q]? = some (.int (S q)) := by
  unfold fL iL; simp [h]
theorem fL_congr {P : Nat} {S T : Nat → Int} (h : ∀ q, q < P → S q = T q) : fL P S = fL P T := by
  unfold fL
  congr 1
  exact List.map_congr_left fun q hq => h q (List.mem_range.mp hq)
theorem fL_set {P m : Nat} {S : Nat → Int} {z : Int} : (fL P S).set m (.int z) = fL P fun q => if q = m then z else S q := by
  refine List.ext_getElem? fun k => ?_
  rw [List.getElem?_set]
  by_cases hk : k < P
  · rw [fL_get hk]
    by_cases e : m = k
    · subst e; rw [fL_get (S := fun q => if q = m then z else S q) hk]; simp [fL_len, hk]
    · rw [if_neg e, fL_get (S := fun q => if q = m then z else S q) hk, if_neg (fun z => e z.symm)]
  · have h1 : ∀ S : Nat → Int, (fL P S)[k]? = none := fun S => List.getElem?_eq_none (by rw [fL_len]; omega)
    rw [h1, h1]
    by_cases e : m = k
    · subst e; simp [fL_len, hk]
    · rw [if_neg e]
theorem fL_zero {P : Nat} : (List.replicate P [PyData.int 0]).flatten = fL P fun _ => 0 := by
  unfold fL iL
  rw [List.map_map, List.flatten_replicate_singleton]
  refine List.ext_getElem? fun k => ?_
  by_cases hk : k < P
  · simp [hk]
  · simp [hk]
/-- the weights within a thing -/
def wt (xs : List D) (i j : Nat) : Int := match xs[i]? with
  | some (.tuple ys) => (match ys[j]? with | some (.int v) => v | _ => 0)
  | _ => 0
theorem wt_at {xs ys : List D} {i j : Nat} {v : Int} (h1 : xs[i]? = some (.tuple ys)) (h2 : ys[j]? = some (.int v)) : wt xs i j = v := by
  unfold wt
  rw [h1]
  show (match ys[j]? with | some (.int v) => v | _ => 0) = v
  rw [h2]
def rowOk (n : Nat) (lim : Int) (d : D) : Bool := match tupOf d with
  | some ys => decide (ys.length = n) && ys.all (btw (-lim) lim)
  | none => false
def rowsOk (lim : Int) : List D → List TF → Bool
  | d :: ds, t :: ts => rowOk t.2.length lim d && rowsOk lim ds ts
  | [], [] => true
  | _, _ => false
def formB (lim : Int) (ts : List TF) (d : D) : Bool := match tupOf d with
  | some xs => rowsOk lim xs ts
  | none => false
end X
namespace X
open PySem PySem.Spec L2 DL DM
/-! the sums of are_weights, both ways -/
abbrev placeS : SS := sFor (sR2 (sCons (sV 8) (sCons (sOp addD (sV 8) (sV 6)) sNil))) (qN 10) (sThen [10] (sAugI ipaddD 3 (sV 10) (sV 9)))
abbrev placeL : SS := sFor (sR2 (sCons (sV 8) (sCons (sOp addD (sV 8) (sV 6)) sNil))) (qN 10) (sThen [10] (sSetI 4 (sV 10) (sOp addD (sIxO 4 (sV 10)) (sV 9))))
theorem place_run {P s f : Nat} {v : Int} {S : Nat → Int} {a0 a1 a2 a4 a5 a7 a11 : Sl} {c : Dr} (h : s + f ≤ P) (hP : P ≤ 24) :
    placeS [a0, a1, a2, .ol (fL P S), a4, a5, .im (.int (f : Int)), a7, .im (.int (s : Int)), .im (.int v), .un, a11] c = some (.nx, [a0, a1, a2, .ol (fL P fun q => S q + v * cv f q s), a4, a5, .im (.int (f : Int)), a7, .im (.int (s : Int)), .im (.int v), .un, a11], c) := by
  have e := for_run (c1 := c) (fi := sR2 (sCons (sV 8) (sCons (sOp addD (sV 8) (sV 6)) sNil))) (tg := qN 10) (body := sThen [10] (sAugI ipaddD 3 (sV 10) (sV 9))) (ρ := [a0, a1, a2, .ol (fL P S), a4, a5, .im (.int (f : Int)), a7, .im (.int (s : Int)), .im (.int v), .un, a11]) (c := c) (xs := rngL (s : Int) f) (st := fun k => [a0, a1, a2, .ol (fL P fun q => S q + v * cv k q s), a4, a5, .im (.int (f : Int)), a7, .im (.int (s : Int)), .im (.int v), .un, a11]) ?_ ?_ fun i x hx => ?_
  · rw [rngL_len] at e; exact e
  · have e1 : okR (s : Int) = true := okR_of (by omega) (by omega)
    have e2 : okR ((s : Int) + f) = true := okR_of (by omega) (by omega)
    have e3 : ((s : Int) + f - s).toNat = f := by omega
    simp [e1, e2, e3]
  · have : (fL P S) = fL P fun q => S q + v * cv 0 q s := fL_congr fun q _ => by
      unfold cv; rw [if_neg (by omega)]; omega
    rw [← this]
  · obtain ⟨hi, rfl⟩ := rngL_lt hx
    refine ⟨_, rfl, then_run (ρ1 := [a0, a1, a2, .ol (fL P fun q => S q + v * cv (i + 1) q s), a4, a5, .im (.int (f : Int)), a7, .im (.int (s : Int)), .im (.int v), .im (.int ((s : Int) + i)), a11]) ?_ rfl⟩
    have e1 : ixN (fL P fun q => S q + v * cv i q s).length ((s : Int) + i) = some (s + i) := by
      rw [fL_len]; exact ixN_nat (k := s + i) (by omega)
    have e2 := fL_get (S := fun q => S q + v * cv i q s) (P := P) (q := s + i) (by omega)
    have e3 : (fL P fun q => S q + v * cv i q s).set (s + i) (.int (S (s + i) + v * cv i (s + i) s + v)) = fL P fun q => S q + v * cv (i + 1) q s := by
      rw [fL_set]
      refine fL_congr fun q hq => ?_
      by_cases e : q = s + i
      · rw [if_pos e, e]
        have h1 : cv i (s + i) s = 0 := by unfold cv; rw [if_neg (by omega)]
        have h2 : cv (i + 1) (s + i) s = 1 := by unfold cv; rw [if_pos (by omega)]
        rw [h1, h2]; omega
      · rw [if_neg e]
        have h1 : cv i q s = cv (i + 1) q s := by
          unfold cv
          by_cases g : s ≤ q ∧ q < s + i
          · rw [if_pos g, if_pos (by omega)]
          · rw [if_neg g, if_neg (by omega)]
        rw [h1]
    unfold sAugI
    simp only [ev_qN, List.set_cons_succ, List.set_cons_zero, ev_sV, List.getElem?_cons_succ, List.getElem?_cons_zero, Option.bind_some, e1, e2]
    show ((ipaddD (.int (S (s + i) + v * cv i (s + i) s)) (.int v)).bind fun z => _) = _
    show some (Fl.nx, _, c) = _
    rw [e3]
theorem placeL_run {P s f : Nat} {v : Int} {S : Nat → Int} {a0 a1 a2 a3 a5 a7 a11 : Sl} {c : Dr} (h : s + f ≤ P) (hP : P ≤ 24) :
    placeL [a0, a1, a2, a3, .ol (fL P S), a5, .im (.int (f : Int)), a7, .im (.int (s : Int)), .im (.int v), .un, a11] c = some (.nx, [a0, a1, a2, a3, .ol (fL P fun q => S q + v * cv f q s), a5, .im (.int (f : Int)), a7, .im (.int (s : Int)), .im (.int v), .un, a11], c) := by
  have e := for_run (c1 := c) (fi := sR2 (sCons (sV 8) (sCons (sOp addD (sV 8) (sV 6)) sNil))) (tg := qN 10) (body := sThen [10] (sSetI 4 (sV 10) (sOp addD (sIxO 4 (sV 10)) (sV 9)))) (ρ := [a0, a1, a2, a3, .ol (fL P S), a5, .im (.int (f : Int)), a7, .im (.int (s : Int)), .im (.int v), .un, a11]) (c := c) (xs := rngL (s : Int) f) (st := fun k => [a0, a1, a2, a3, .ol (fL P fun q => S q + v * cv k q s), a5, .im (.int (f : Int)), a7, .im (.int (s : Int)), .im (.int v), .un, a11]) ?_ ?_ fun i x hx => ?_
  · rw [rngL_len] at e; exact e
  · have e1 : okR (s : Int) = true := okR_of (by omega) (by omega)
    have e2 : okR ((s : Int) + f) = true := okR_of (by omega) (by omega)
    have e3 : ((s : Int) + f - s).toNat = f := by omega
    simp [e1, e2, e3]
  · have : (fL P S) = fL P fun q => S q + v * cv 0 q s := fL_congr fun q _ => by
      unfold cv; rw [if_neg (by omega)]; omega
    rw [← this]
  · obtain ⟨hi, rfl⟩ := rngL_lt hx
    refine ⟨_, rfl, then_run (ρ1 := [a0, a1, a2, a3, .ol (fL P fun q => S q + v * cv (i + 1) q s), a5, .im (.int (f : Int)), a7, .im (.int (s : Int)), .im (.int v), .im (.int ((s : Int) + i)), a11]) ?_ rfl⟩
    have e1 : ixN (fL P fun q => S q + v * cv i q s).length ((s : Int) + i) = some (s + i) := by
      rw [fL_len]; exact ixN_nat (k := s + i) (by omega)
    have e2 : atI (fL P fun q => S q + v * cv i q s) ((s : Int) + i) = some (.int (S (s + i) + v * cv i (s + i) s)) := atI_nat (fL_get (S := fun q => S q + v * cv i q s) (P := P) (q := s + i) (by omega))
    have e3 : (fL P fun q => S q + v * cv i q s).set (s + i) (.int (S (s + i) + v * cv i (s + i) s + v)) = fL P fun q => S q + v * cv (i + 1) q s := by
      rw [fL_set]
      refine fL_congr fun q hq => ?_
      by_cases e : q = s + i
      · rw [if_pos e, e]
        have h1 : cv i (s + i) s = 0 := by unfold cv; rw [if_neg (by omega)]
        have h2 : cv (i + 1) (s + i) s = 1 := by unfold cv; rw [if_pos (by omega)]
        rw [h1, h2]; omega
      · rw [if_neg e]
        have h1 : cv i q s = cv (i + 1) q s := by
          unfold cv
          by_cases g : s ≤ q ∧ q < s + i
          · rw [if_pos g, if_pos (by omega)]
          · rw [if_neg g, if_neg (by omega)]
        rw [h1]
    simp only [ev_sSetI, ev_sOp, ev_sIxO, ev_qN, List.set_cons_succ, List.set_cons_zero, ev_sV, List.getElem?_cons_succ, List.getElem?_cons_zero, Option.bind_some, e1, e2, ev_addII, e3]
end X
namespace X
open PySem PySem.Spec L2 DL DM
theorem enum_at {ys : List D} {j : Nat} {d : D} (h : (enumL ys)[j]? = some d) : ∃ y, ys[j]? = some y ∧ d = .tuple [.int (j : Int), y] := by
  unfold enumL at h
  rw [List.getElem?_map, List.getElem?_zipIdx] at h
  cases e : ys[j]? with
  | none => rw [e] at h; cases h
  | some y =>
    rw [e] at h
    refine ⟨y, rfl, ?_⟩
    simp at h
    rw [← h]
theorem enum_len {ys : List D} : (enumL ys).length = ys.length := by unfold enumL; simp
abbrev pairT : D → Rho → Option Rho := qTup (qCons (qN 8) (qCons (qN 9) qNil))
abbrev standS : SS := sFor (sEnum (sV 5)) pairT (sThen [8, 9] (sSeq (sAug ipaddD 4 (sOp mulD (sV 9) (sOp ixD (sV 7) (sV 8)))) placeS))
abbrev standL : SS := sFor (sEnum (sV 5)) pairT (sThen [8, 9] (sSeq (sIfS (sNot (sB (sCall F_l_is_whole (sCons (sV 9) (sCons (sUn negD (sOp powD (sC (.int 10)) (sC (.int 39)))) (sCons (sOp powD (sC (.int 10)) (sC (.int 39))) sNil))))))
 (sRet (sC (.bool false)))
 sNext)
 (sSeq (sAsg (sOp addD (sV 3) (sOp mulD (sV 9) (sOp ixD (sV 7) (sV 8)))) (qN 3)) placeL)))
/-- a told frame of so many places -/
def T1 (P : Nat) (t : TF) : Prop := 1 ≤ t.1 ∧ t.1 ≤ P ∧ t.2.length = P - t.1 + 1 ∧ ∀ x ∈ t.2, -24300 ≤ x ∧ x ≤ 24300
section
variable {P i : Nat} {ts : List TF} {t : TF} {xs ys : List D} {a0 a1 a2 a11 : Sl} {c : Dr}
theorem nN_at (h : ts[i]? = some t) : nN ts i = t.2.length := by unfold nN; simp [List.getD, h]
theorem cN_at (h : ts[i]? = some t) {j : Nat} : cN ts i j = gI t.2 j := by unfold cN; simp [List.getD, h]
theorem fN_at (h : ts[i]? = some t) : fN ts i = t.1 := by unfold fN; simp [List.getD, h]
theorem stand_run (hP : P ≤ 24) (ht : ts[i]? = some t) (hT : T1 P t) (hx : xs[i]? = some (.tuple ys)) (hl : ys.length = t.2.length) (hi : ∀ y ∈ ys, ∃ v, y = .int v) :
    standS [a0, a1, a2, .ol (fL P (smN ts (wt xs) i 0)), .im (.int (whN ts (wt xs) i 0)), .im (.tuple ys), .im (.int (t.1 : Int)), .im (.tuple (iL t.2)), .un, .un, .un, a11] c
      = some (.nx, [a0, a1, a2, .ol (fL P (smN ts (wt xs) (i + 1) 0)), .im (.int (whN ts (wt xs) (i + 1) 0)), .im (.tuple ys), .im (.int (t.1 : Int)), .im (.tuple (iL t.2)), .un, .un, .un, a11], c) := by
  obtain ⟨t1, t2, t3, t4⟩ := hT
  have e := for_run (c1 := c) (fi := sEnum (sV 5)) (tg := pairT) (body := sThen [8, 9] (sSeq (sAug ipaddD 4 (sOp mulD (sV 9) (sOp ixD (sV 7) (sV 8)))) placeS)) (ρ := [a0, a1, a2, .ol (fL P (smN ts (wt xs) i 0)), .im (.int (whN ts (wt xs) i 0)), .im (.tuple ys), .im (.int (t.1 : Int)), .im (.tuple (iL t.2)), .un, .un, .un, a11]) (c := c) (xs := enumL ys)
    (st := fun j => [a0, a1, a2, .ol (fL P (smN ts (wt xs) i j)), .im (.int (whN ts (wt xs) i j)), .im (.tuple ys), .im (.int (t.1 : Int)), .im (.tuple (iL t.2)), .un, .un, .un, a11]) (by simp) rfl fun j d hd => ?_
  · rw [enum_len] at e
    rw [hl, ← nN_at ht, whN_up, show smN ts (wt xs) i (nN ts i) = smN ts (wt xs) (i + 1) 0 from funext fun q => smN_up] at e
    exact e
  · obtain ⟨y, hy, rfl⟩ := enum_at hd
    have hj : j < ys.length := (List.getElem?_eq_some_iff.mp hy).1
    obtain ⟨v, rfl⟩ := hi y (List.mem_of_getElem? hy)
    have hw : wt xs i j = v := wt_at hx hy
    refine ⟨_, rfl, then_run (ρ1 := [a0, a1, a2, .ol (fL P (smN ts (wt xs) i (j + 1))), .im (.int (whN ts (wt xs) i (j + 1))), .im (.tuple ys), .im (.int (t.1 : Int)), .im (.tuple (iL t.2)), .im (.int (j : Int)), .im (.int v), .un, a11]) ?_ rfl⟩
    have hb := t4 _ (gI_mem (xs := t.2) (i := j) (by omega))
    have e1 : mulD (.int v) (.int (gI t.2 j)) = some (.int (v * gI t.2 j)) := mulI2 (by omega)
    have e2 := atI_iL (xs := t.2) (j := j) (by omega)
    refine seq_run (ρ1 := [a0, a1, a2, .ol (fL P (smN ts (wt xs) i j)), .im (.int (whN ts (wt xs) i (j + 1))), .im (.tuple ys), .im (.int (t.1 : Int)), .im (.tuple (iL t.2)), .im (.int (j : Int)), .im (.int v), .un, a11]) (c1 := c) ?_ ?_
    · rw [whN_st, hw, cN_at ht]
      simp only [ev_sAug, ev_sOp, ev_sV, List.set_cons_succ, List.set_cons_zero, List.getElem?_cons_succ, List.getElem?_cons_zero, Option.bind_some, ev_ixT, e2, e1]
      rfl
    · rw [place_run (by omega) hP]
      rw [show (fun q => smN ts (wt xs) i j q + v * cv t.1 q j) = smN ts (wt xs) i (j + 1) from funext fun q => by rw [smN_st, hw, fN_at ht]]
theorem standL_run {L : Int} (hL : powD (.int 10) (.int 39) = some (.int L)) (hP : P ≤ 24) (ht : ts[i]? = some t) (hT : T1 P t) (hx : xs[i]? = some (.tuple ys)) (hl : ys.length = t.2.length) :
    if ys.all (btw (-L) L) = true then standL [a0, a1, a2, .im (.int (whN ts (wt xs) i 0)), .ol (fL P (smN ts (wt xs) i 0)), .im (.tuple ys), .im (.int (t.1 : Int)), .im (.tuple (iL t.2)), .un, .un, .un, a11] c
      = some (.nx, [a0, a1, a2, .im (.int (whN ts (wt xs) (i + 1) 0)), .ol (fL P (smN ts (wt xs) (i + 1) 0)), .im (.tuple ys), .im (.int (t.1 : Int)), .im (.tuple (iL t.2)), .un, .un, .un, a11], c)
    else ∃ ρ', standL [a0, a1, a2, .im (.int (whN ts (wt xs) i 0)), .ol (fL P (smN ts (wt xs) i 0)), .im (.tuple ys), .im (.int (t.1 : Int)), .im (.tuple (iL t.2)), .un, .un, .un, a11] c = some (.rt (.bool false), ρ', c) := by
  obtain ⟨t1, t2, t3, t4⟩ := hT
  have e := forS_rt (fun d => match d with | .tuple [_, y] => !btw (-L) L y | _ => false) (c := c) (d := .bool false) (tg := pairT) (body := sThen [8, 9] (sSeq (sIfS (sNot (sB (sCall F_l_is_whole (sCons (sV 9) (sCons (sUn negD (sOp powD (sC (.int 10)) (sC (.int 39)))) (sCons (sOp powD (sC (.int 10)) (sC (.int 39))) sNil))))))
 (sRet (sC (.bool false)))
 sNext)
 (sSeq (sAsg (sOp addD (sV 3) (sOp mulD (sV 9) (sOp ixD (sV 7) (sV 8)))) (qN 3)) placeL))) (xs := enumL ys)
    (st := fun j => [a0, a1, a2, .im (.int (whN ts (wt xs) i j)), .ol (fL P (smN ts (wt xs) i j)), .im (.tuple ys), .im (.int (t.1 : Int)), .im (.tuple (iL t.2)), .un, .un, .un, a11]) (fun j d hd hb => ?_) (fun j d hd hb => ?_)
  · have ea : (enumL ys).all (fun d => !(match d with | .tuple [_, y] => !btw (-L) L y | _ => false)) = ys.all (btw (-L) L) := by
      unfold enumL
      rw [List.all_map]
      have : ∀ (ys : List D) (k : Nat), (ys.zipIdx k).all ((fun d => !(match d with | .tuple [_, y] => !btw (-L) L y | _ => false)) ∘ fun p => PyData.tuple [.int (p.2 : Nat), p.1]) = ys.all (btw (-L) L) := by
        intro ys
        induction ys with
        | nil => intro k; rfl
        | cons y ys ih =>
          intro k
          rw [List.zipIdx_cons, List.all_cons, List.all_cons, ih]
          simp
      exact this ys 0
    rw [ea] at e
    have en : standL [a0, a1, a2, .im (.int (whN ts (wt xs) i 0)), .ol (fL P (smN ts (wt xs) i 0)), .im (.tuple ys), .im (.int (t.1 : Int)), .im (.tuple (iL t.2)), .un, .un, .un, a11] c = forS pairT (sThen [8, 9] (sSeq (sIfS (sNot (sB (sCall F_l_is_whole (sCons (sV 9) (sCons (sUn negD (sOp powD (sC (.int 10)) (sC (.int 39)))) (sCons (sOp powD (sC (.int 10)) (sC (.int 39))) sNil))))))
 (sRet (sC (.bool false)))
 sNext)
 (sSeq (sAsg (sOp addD (sV 3) (sOp mulD (sV 9) (sOp ixD (sV 7) (sV 8)))) (qN 3)) placeL))) (enumL ys) [a0, a1, a2, .im (.int (whN ts (wt xs) i 0)), .ol (fL P (smN ts (wt xs) i 0)), .im (.tuple ys), .im (.int (t.1 : Int)), .im (.tuple (iL t.2)), .un, .un, .un, a11] c := rfl
    rw [en]
    rw [enum_len, hl, ← nN_at ht, whN_up, show smN ts (wt xs) i (nN ts i) = smN ts (wt xs) (i + 1) 0 from funext fun q => smN_up] at e
    exact e
  · obtain ⟨y, hy, rfl⟩ := enum_at hd
    have hb : (!btw (-L) L y) = false := hb
    have hb' : btw (-L) L y = true := by simpa using hb
    have hj : j < ys.length := (List.getElem?_eq_some_iff.mp hy).1
    obtain ⟨v, rfl⟩ : ∃ v, y = .int v := by
      cases y with
      | int v => exact ⟨v, rfl⟩
      | _ => cases hb'
    have hw : wt xs i j = v := wt_at hx hy
    refine ⟨_, rfl, then_run (ρ1 := [a0, a1, a2, .im (.int (whN ts (wt xs) i (j + 1))), .ol (fL P (smN ts (wt xs) i (j + 1))), .im (.tuple ys), .im (.int (t.1 : Int)), .im (.tuple (iL t.2)), .im (.int (j : Int)), .im (.int v), .un, a11]) ?_ rfl⟩
    have hb4 := t4 _ (gI_mem (xs := t.2) (i := j) (by omega))
    have e1 : mulD (.int v) (.int (gI t.2 j)) = some (.int (v * gI t.2 j)) := mulI2 (by omega)
    have e2 := atI_iL (xs := t.2) (j := j) (by omega)
    refine seq_run (ρ1 := [a0, a1, a2, .im (.int (whN ts (wt xs) i j)), .ol (fL P (smN ts (wt xs) i j)), .im (.tuple ys), .im (.int (t.1 : Int)), .im (.tuple (iL t.2)), .im (.int (j : Int)), .im (.int v), .un, a11]) (c1 := c) (DL.ifF (c1 := c) ?_ rfl) ?_
    · simp only [ev_sNot, ev_sB, ev_sCall, ev_sCons, ev_sNil, ev_sUn, ev_sOp, ev_sC, ev_sV, List.set_cons_succ, List.set_cons_zero, List.getElem?_cons_succ, List.getElem?_cons_zero, Option.bind_some, hL, ev_negI, F_l_is_whole_eq, hb', Bool.not_true]
    refine seq_run (ρ1 := [a0, a1, a2, .im (.int (whN ts (wt xs) i (j + 1))), .ol (fL P (smN ts (wt xs) i j)), .im (.tuple ys), .im (.int (t.1 : Int)), .im (.tuple (iL t.2)), .im (.int (j : Int)), .im (.int v), .un, a11]) (c1 := c) ?_ ?_
    · rw [whN_st, hw, cN_at ht]
      simp only [ev_sAsg, ev_qN, ev_sOp, ev_sV, List.set_cons_succ, List.set_cons_zero, List.getElem?_cons_succ, List.getElem?_cons_zero, Option.bind_some, ev_ixT, e2, e1, ev_addII]
    · rw [placeL_run (by omega) hP]
      rw [show (fun q => smN ts (wt xs) i j q + v * cv t.1 q j) = smN ts (wt xs) i (j + 1) from funext fun q => by rw [smN_st, hw, fN_at ht]]
  · obtain ⟨y, hy, rfl⟩ := enum_at hd
    have hb : (!btw (-L) L y) = true := hb
    have hb' : btw (-L) L y = false := by simpa using hb
    refine ⟨_, _, rfl, then_rt (seq_rt (DL.ifT (c1 := c) ?_ (ret_run ev_sC)))⟩
    simp only [ev_sNot, ev_sB, ev_sCall, ev_sCons, ev_sNil, ev_sUn, ev_sOp, ev_sC, ev_sV, List.set_cons_succ, List.set_cons_zero, List.getElem?_cons_succ, List.getElem?_cons_zero, Option.bind_some, hL, ev_negI, F_l_is_whole_eq, hb', Bool.not_false]
end
end X
namespace X
open PySem PySem.Spec L2 DL DM
theorem anyD_map {xs : List D} {g : D → Bool} : anyD [.list (xs.map fun d => .bool (g d))] = some (.bool (xs.any g)) := by
  have e : (xs.map fun d => PyData.bool (g d)) = (xs.map g).map PyData.bool := by rw [List.map_map]; rfl
  rw [e]
  show (boolsD _).map _ = _
  rw [boolsD_map]
  show some (PyData.bool ((xs.map g).any id)) = _
  rw [List.any_map]; rfl
def smallIn (d : D) : Prop := ∀ xs, d = .tuple xs → xs.length ≤ 1000 ∧ ∀ y ∈ xs, ∀ ys, y = .tuple ys → ys.length ≤ 1000
theorem lcS2_map {g : D → Rho → Option Rho} {f1 : SI} {g1 : D → Rho → Option Rho} {t1 : SB} {e : SE} {ρ0 : Rho} {vs1 : List Nat} {c : Dr} (F : D → List D) : ∀ {xs : List D}, (∀ x ∈ xs, ∃ ρ1 zs, g x ρ0 = some ρ1 ∧ f1 ρ1 c = some (zs, c) ∧ lcS g1 t1 e (wipeR ρ1 vs1) zs c = some (F x, c)) → lcS2 g sYes f1 g1 t1 e ρ0 vs1 xs c = some (xs.flatMap F, c)
  | [], _ => rfl
  | x :: xs, h => by
    obtain ⟨ρ1, zs, e1, e2, e3⟩ := h x List.mem_cons_self
    have ih := lcS2_map (g := g) (f1 := f1) (g1 := g1) (t1 := t1) (e := e) (ρ0 := ρ0) (vs1 := vs1) (c := c) F (xs := xs) fun y hy => h y (List.mem_cons_of_mem _ hy)
    unfold lcS2
    rw [e1]
    simp only [Option.bind_some, ev_sYes, if_true, e2, e3, ih]
    rfl
def itemsD (d : D) : List D := (tupOf d).getD []
theorem items_tup {xs : List D} : itemsD (.tuple xs) = xs := rfl
def lenEq : D → Bool
  | .tuple [x, .tuple [_, .tuple cs]] => decide (((itemsD x).length : Int) = cs.length)
  | _ => false
theorem rowsOk_ne {L : Int} : ∀ {xs : List D} {ts : List TF}, xs.length ≠ ts.length → rowsOk L xs ts = false
  | [], [], h => absurd rfl h
  | [], _ :: _, _ => rfl
  | _ :: _, [], _ => rfl
  | x :: xs, t :: ts, h => by
    rw [rowsOk, rowsOk_ne (xs := xs) (ts := ts) (by simpa using h), Bool.and_false]
theorem rowsOk_eq {L : Int} : ∀ {xs : List D} {ts : List TF}, xs.length = ts.length → rowsOk L xs ts = (xs.all (isB .tuple) && ((zipL xs (ts.map tfD)).all lenEq && (xs.flatMap itemsD).all (btw (-L) L)))
  | [], [], _ => rfl
  | [], _ :: _, h => by cases h
  | _ :: _, [], h => by cases h
  | x :: xs, t :: ts, h => by
    rw [rowsOk, rowsOk_eq (xs := xs) (ts := ts) (by simpa using h), List.all_cons, List.map_cons, zipL, List.all_cons, List.flatMap_cons, List.all_append]
    rcases tup_cases x with ⟨ys, rfl⟩ | hx
    · have e1 : lenEq (.tuple [.tuple ys, tfD t]) = decide (ys.length = t.2.length) := by
        show decide ((ys.length : Int) = ((iL t.2).length : Int)) = _
        rw [iL_len]
        exact decide_eq_decide.mpr (by omega)
      have e2 : rowOk t.2.length L (.tuple ys) = (decide (ys.length = t.2.length) && ys.all (btw (-L) L)) := rfl
      rw [e1, e2, items_tup, isTup_yes]
      cases decide (ys.length = t.2.length) <;> cases ys.all (btw (-L) L) <;> cases xs.all (isB .tuple) <;> cases (zipL xs (ts.map tfD)).all lenEq <;> cases (xs.flatMap itemsD).all (btw (-L) L) <;> rfl
    · rw [isTup_no hx]
      have e2 : rowOk t.2.length L x = false := by unfold rowOk; rw [hx]
      rw [e2]; rfl
theorem flat_len {k : Nat} : ∀ {xs : List D}, (∀ y ∈ xs, (itemsD y).length ≤ k) → (xs.flatMap itemsD).length ≤ xs.length * k
  | [], _ => by simp
  | x :: xs, h => by
    rw [List.flatMap_cons, List.length_append, List.length_cons, Nat.succ_mul]
    have := flat_len (xs := xs) fun y hy => h y (List.mem_cons_of_mem _ hy)
    have := h x List.mem_cons_self
    omega
section
variable {P : Nat} {ts : List TF} {d : D}
theorem F_by_form_eq (hts : ts.length ≤ 3) (hd : smallIn d) : F_are_weights_by_form [tsD ts, d] = some (.bool (formB 10000000000000000000000000000000000000000 ts d)) := by
  generalize hL : (10000000000000000000000000000000000000000 : Int) = L
  refine bodyP_of rfl ?_
  unfold S_are_weights_by_form formB
  rw [hL]
  have ft : few (ts.map tfD).length = true := few_of (by rw [List.length_map]; omega)
  rcases tup_cases d with ⟨xs, rfl⟩ | h
  · obtain ⟨hd1, hd2⟩ := hd xs rfl
    have fx : few xs.length = true := few_of (by omega)
    have en : neD (.int (xs.length : Int)) (.int (ts.length : Int)) = some (.bool (!decide ((xs.length : Int) = ts.length))) := neD_int
    have l1 := lcS_map (tg := qN 2) (e := sIsi .tuple (sV 2)) (ρ0 := [.im (tsD ts), .im (.tuple xs), .un, .un, .un, .un]) (xs := xs) (c := (0, 0)) (fun d => .bool (isB .tuple d)) (fun x _ => ⟨_, rfl, by simp⟩)
    show Runs _ _ _ (IsRt (.bool (rowsOk L xs ts)))
    by_cases hlen : xs.length = ts.length
    · rw [decide_eq_true (by omega)] at en
      rw [rowsOk_eq hlen]
      cases ha : xs.all (isB .tuple) with
      | false =>
        refine .leave (c1 := (0, 0)) (c2 := (0, 0)) (d := .bool false) ?_ rfl rfl
        simp [isTup_yes, tsD, en, fx, l1, allD_map, ha]
        simp [tsD] at l1
        simp [l1, allD_map, ha]
      | true =>
        have hT : ∀ y ∈ xs, ∃ ys, y = .tuple ys := fun y hy => by
          have := List.all_eq_true.mp ha y hy
          cases y with
          | tuple ys => exact ⟨ys, rfl⟩
          | _ => cases this
        refine .pass (c1 := (0, 0)) ?_ ?_
        · simp [tsD] at l1
          simp [isTup_yes, tsD, en, fx, l1, allD_map, ha]
        have l2 := lcS_map (tg := qTup (qCons (qN 2) (qCons (qTup (qCons (qN 3) (qCons (qN 4) qNil))) qNil))) (e := sOp eqD (sCB lenD (sCons (sV 2) sNil)) (sCB lenD (sCons (sV 4) sNil))) (ρ0 := [.im (tsD ts), .im (.tuple xs), .un, .un, .un, .un]) (xs := zipL xs (ts.map tfD)) (c := (0, 0)) (fun d => .bool (lenEq d)) (fun z hz => by
          obtain ⟨k, hk⟩ := List.getElem?_of_mem hz
          obtain ⟨x, y, hx, hy, rfl⟩ := zipL_get hk
          obtain ⟨t, _, rfl⟩ := List.mem_map.mp (List.mem_of_getElem? hy)
          obtain ⟨ys, rfl⟩ := hT x (List.mem_of_getElem? hx)
          refine ⟨_, rfl, ?_⟩
          have : eqD (.int (ys.length : Int)) (.int ((iL t.2).length : Int)) = some (.bool (lenEq (.tuple [.tuple ys, tfD t]))) := eqD_int
          simp only [ev_sOp, ev_sCB, ev_sCons, ev_sNil, ev_sV, List.set_cons_succ, List.set_cons_zero, List.getElem?_cons_succ, List.getElem?_cons_zero, Option.bind_some, ev_lenT, this])
        have fz : few (zipL xs (ts.map tfD)).length = true := few_of (by rw [zipL_len, List.length_map]; omega)
        cases hb : (zipL xs (ts.map tfD)).all lenEq with
        | false =>
          refine .leave (c1 := (0, 0)) (c2 := (0, 0)) (d := .bool false) ?_ rfl rfl
          simp only [ev_sNot, ev_sB, ev_sCB, ev_sCons, ev_sNil, ev_sOfL, ev_sLc, ev_sZip, ev_sV, List.map_cons, List.map_nil, List.cons_append, List.nil_append, List.getElem?_cons_succ, List.getElem?_cons_zero, Option.bind_some, ev_seqT, tsD, fz, if_true, ev_wipe0, ev_wipe1, List.set_cons_succ, List.set_cons_zero, List.replicate_succ, List.replicate_zero]
          simp only [tsD] at l2
          rw [l2]
          simp only [Option.bind_some, allD_map, hb, Bool.not_false]
        | true =>
          refine .pass (c1 := (0, 0)) ?_ ?_
          · simp only [ev_sNot, ev_sB, ev_sCB, ev_sCons, ev_sNil, ev_sOfL, ev_sLc, ev_sZip, ev_sV, List.map_cons, List.map_nil, List.cons_append, List.nil_append, List.getElem?_cons_succ, List.getElem?_cons_zero, Option.bind_some, ev_seqT, tsD, fz, if_true, ev_wipe0, ev_wipe1, List.set_cons_succ, List.set_cons_zero, List.replicate_succ, List.replicate_zero]
            simp only [tsD] at l2
            rw [l2]
            simp only [Option.bind_some, allD_map, hb, Bool.not_true]
          have l3 := lcS2_map (g := qN 5) (f1 := sItT (sV 5)) (g1 := qN 2) (t1 := sYes) (e := sCall F_is_between (sCons (sV 2) (sCons (sOp subD (sC (.int 0)) (sC (.int L))) (sCons (sC (.int L)) sNil)))) (ρ0 := [.im (tsD ts), .im (.tuple xs), .un, .un, .un, .un]) (vs1 := [2]) (c := (0, 0)) (fun x => (itemsD x).map fun y => .bool (btw (-L) L y)) (xs := xs) (fun x hx => by
            obtain ⟨ys, rfl⟩ := hT x hx
            refine ⟨_, ys, rfl, by simp, ?_⟩
            refine lcS_map (fun y => .bool (btw (-L) L y)) fun y _ => ⟨_, rfl, ?_⟩
            simp only [ev_sCall, ev_sCons, ev_sNil, ev_sOp, ev_sC, ev_sV, ev_wipe1, ev_wipe0, List.set_cons_succ, List.set_cons_zero, List.getElem?_cons_succ, List.getElem?_cons_zero, Option.bind_some, ev_subII, Int.zero_sub, F_is_between_eq])
          have e4 : (xs.flatMap fun x => (itemsD x).map fun y => PyData.bool (btw (-L) L y)) = (xs.flatMap itemsD).map fun y => PyData.bool (btw (-L) L y) := by rw [List.map_flatMap]
          rw [e4] at l3
          have f4 : few ((xs.flatMap itemsD).map fun y => PyData.bool (btw (-L) L y)).length = true := by
            rw [List.length_map]
            have := flat_len (k := 1000) (xs := xs) fun y hy => by
              obtain ⟨ys, rfl⟩ := hT y hy
              exact hd2 _ hy ys rfl
            exact few_of (by omega)
          refine .ret (d := .bool ((xs.flatMap itemsD).all (btw (-L) L))) (c1 := (0, 0)) ?_ (by simp)
          have lc2 : sLc2 (sItT (sV 1)) (qN 5) sYes (sItT (sV 5)) (qN 2) sYes (sCall F_is_between (sCons (sV 2) (sCons (sOp subD (sC (.int 0)) (sC (.int L))) (sCons (sC (.int L)) sNil)))) [5, 2] [2] [.im (tsD ts), .im (.tuple xs), .un, .un, .un, .un] (0, 0) = some ((xs.flatMap itemsD).map fun y => PyData.bool (btw (-L) L y), (0, 0)) := by
            unfold sLc2
            simp only [ev_sItT, ev_sV, List.getElem?_cons_succ, List.getElem?_cons_zero, Option.bind_some, ev_wipe1, ev_wipe0, List.set_cons_succ, List.set_cons_zero]
            rw [l3]
            simp only [Option.bind_some, f4, if_true]
          show sCB allD _ [.im (tsD ts), .im (.tuple xs), .un, .un, .un, .un] (0, 0) = _
          simp only [ev_sCB, ev_sCons, ev_sNil, ev_sOfL]
          rw [lc2]
          simp only [Option.bind_some, allD_map]
    · rw [decide_eq_false (by omega)] at en
      rw [rowsOk_ne hlen]
      exact .leave (c1 := (0, 0)) (c2 := (0, 0)) (d := .bool false) (by simp [isTup_yes, tsD, en]) rfl rfl
  · have e1 := isTup_no h
    exact .leave (c1 := (0, 0)) (c2 := (0, 0)) (d := .bool false) (by simp [e1]) rfl (by simp [h])
end
end X
namespace X
open PySem PySem.Spec L2 DL DM
abbrev tripT : D → Rho → Option Rho := qTup (qCons (qN 5) (qCons (qTup (qCons (qN 6) (qCons (qN 7) qNil))) qNil))
theorem rowsOk_at {L : Int} : ∀ {xs : List D} {ts : List TF} {i : Nat} {x : D} {t : TF}, rowsOk L xs ts = true → xs[i]? = some x → ts[i]? = some t → ∃ ys, x = .tuple ys ∧ ys.length = t.2.length ∧ ∀ y ∈ ys, btw (-L) L y = true
  | [], _, i, x, t, _, h, _ => by simp at h
  | _ :: _, [], i, x, t, _, _, h => by simp at h
  | x :: xs, t :: ts, 0, x', t', h, hx, ht => by
    simp at hx ht
    subst hx ht
    rw [rowsOk, Bool.and_eq_true] at h
    have h1 := h.1
    unfold rowOk at h1
    cases x with
    | tuple ys =>
      have h1 : (decide (ys.length = t.2.length) && ys.all (btw (-L) L)) = true := h1
      rw [Bool.and_eq_true, decide_eq_true_eq, List.all_eq_true] at h1
      exact ⟨ys, rfl, h1⟩
    | _ => cases h1
  | x :: xs, t :: ts, i + 1, x', t', h, hx, ht => by
    rw [rowsOk, Bool.and_eq_true] at h
    exact rowsOk_at h.2 (by simpa using hx) (by simpa using ht)
theorem rowsOk_len {L : Int} {xs : List D} {ts : List TF} (h : rowsOk L xs ts = true) : xs.length = ts.length := by
  by_cases e : xs.length = ts.length
  · exact e
  · rw [rowsOk_ne e] at h; cases h
theorem int_of_btw {lo hi : Int} {y : D} (h : btw lo hi y = true) : ∃ v, y = .int v := by
  cases y with
  | int v => exact ⟨v, rfl⟩
  | _ => cases h
theorem fL_any {P : Nat} {S : Nat → Int} : ((fL P S).any fun d => match d with | .int i => !decide (i = 0) | _ => false) = !(List.range P).all fun q => decide (S q = 0) := by
  unfold fL iL
  rw [List.any_map, List.any_map]
  show (List.range P).any (fun q => !decide (S q = 0)) = _
  rw [List.not_all_eq_any_not]
section
variable {P : Nat} {ts : List TF} {d : D}
theorem F_are_weights_eq (hT : TOk P ts) (hd : smallIn d) : F_are_weights [.int (P : Int), tsD ts, d] = some (.bool (formB 10000000000000000000000000000000000000000 ts d && ansN P ts (wt (itemsD d)))) := by
  have ef := F_by_form_eq (ts := ts) (d := d) hT.2.1 hd
  generalize (10000000000000000000000000000000000000000 : Int) = L at ef ⊢
  obtain ⟨hP, hl3, hTs⟩ := hT
  refine bodyP_of rfl ?_
  unfold S_are_weights
  cases hf : formB L ts d with
  | false =>
    rw [hf] at ef
    exact .leave (c1 := (0, 0)) (c2 := (0, 0)) (d := .bool false) (by simp [ef]) rfl rfl
  | true =>
    rw [hf] at ef
    refine .pass (c1 := (0, 0)) (by simp [ef]) ?_
    obtain ⟨xs, rfl⟩ : ∃ xs, d = .tuple xs := by
      rcases tup_cases d with h | h
      · exact h
      · unfold formB at hf; rw [h] at hf; cases hf
    have hr : rowsOk L xs ts = true := hf
    have hlen := rowsOk_len hr
    rw [items_tup]
    have f1 : few 1 = true := by decide
    refine .seq (ρ1 := [.im (.int (P : Int)), .im (tsD ts), .im (.tuple xs), .ol (fL P (smN ts (wt xs) 0 0)), .im (.int (whN ts (wt xs) 0 0)), .un, .un, .un, .un, .un, .un, .un]) (c1 := (0, 0)) ?_ ?_
    · have h0 : fL P (smN ts (wt xs) 0 0) = (List.replicate P [PyData.int 0]).flatten := by
        rw [fL_zero]; rfl
      have h1 : whN ts (wt xs) 0 0 = 0 := rfl
      rw [h0, h1]
      have g1 : P ≤ 1000000 := by omega
      have g2 : (-1000000 : Int) ≤ P := by omega
      have g3 : (P : Int) ≤ 1000000 := by omega
      simp [f1, g1, g2, g3]
    have lp := for_run (c1 := (0, 0)) (c := (0, 0)) (fi := sZip (sV 2) (sV 1)) (tg := tripT) (body := sThen [5, 6, 7] standS) (ρ := [.im (.int (P : Int)), .im (tsD ts), .im (.tuple xs), .ol (fL P (smN ts (wt xs) 0 0)), .im (.int (whN ts (wt xs) 0 0)), .un, .un, .un, .un, .un, .un, .un]) (xs := zipL xs (ts.map tfD))
      (st := fun i => [.im (.int (P : Int)), .im (tsD ts), .im (.tuple xs), .ol (fL P (smN ts (wt xs) i 0)), .im (.int (whN ts (wt xs) i 0)), .un, .un, .un, .un, .un, .un, .un]) (by simp [tsD]) rfl fun i z hz => by
        obtain ⟨x, y, hx, hy, rfl⟩ := zipL_get hz
        rw [List.getElem?_map] at hy
        obtain ⟨t, ht, rfl⟩ := Option.map_eq_some_iff.mp hy
        obtain ⟨ys, rfl, y1, y2⟩ := rowsOk_at hr hx ht
        have h1 := stand_run (P := P) (i := i) (ts := ts) (t := t) (xs := xs) (ys := ys) (a0 := .im (.int (P : Int))) (a1 := .im (tsD ts)) (a2 := .im (.tuple xs)) (a11 := .un) (c := (0, 0)) hP ht (hTs t (List.mem_of_getElem? ht)) hx y1 fun y hy => int_of_btw (y2 y hy)
        exact ⟨_, rfl, then_run h1 rfl⟩
    rw [zipL_len, List.length_map, hlen, Nat.min_self] at lp
    refine .seq lp ?_
    refine .frz rfl ?_
    have l5 := lcS_map (tg := qN 11) (e := sOp neD (sV 11) (sC (.int 0))) (ρ0 := [.im (.int (P : Int)), .im (tsD ts), .im (.tuple xs), .im (.list (fL P (smN ts (wt xs) ts.length 0))), .im (.int (whN ts (wt xs) ts.length 0)), .un, .un, .un, .un, .un, .un, .un]) (xs := fL P (smN ts (wt xs) ts.length 0)) (c := (0, 0)) (fun d => .bool (match d with | .int i => !decide (i = 0) | _ => false)) (fun x hx => by
      obtain ⟨i, _, rfl⟩ := List.mem_map.mp hx
      refine ⟨_, rfl, ?_⟩
      have : neD (.int i) (.int 0) = some (.bool (!decide (i = 0))) := neD_int
      simp [this])
    have en : neD (.int (whN ts (wt xs) ts.length 0)) (.int 0) = some (.bool (!decide (whN ts (wt xs) ts.length 0 = 0))) := neD_int
    have fp : few (fL P (smN ts (wt xs) ts.length 0)).length = true := few_of (by rw [fL_len]; omega)
    refine .ret (d := .bool (ansN P ts (wt xs))) (c1 := (0, 0)) ?_ (by simp)
    simp only [ev_sAndV, ev_sB, ev_sOp, ev_sV, ev_sC, ev_sNotV, ev_sCB, ev_sCons, ev_sNil, ev_sOfL, ev_sLc, ev_sItL, List.set_cons_succ, List.set_cons_zero, List.getElem?_cons_succ, List.getElem?_cons_zero, Option.bind_some, en, fp, if_true, ev_wipe0, ev_wipe1]
    rw [l5]
    simp only [Option.bind_some, anyD_map, fL_any, Bool.not_not]
    unfold ansN
    cases (!decide (whN ts (wt xs) ts.length 0 = 0)) <;> rfl
theorem F_l_are_weights_eq {L : Int} (hL : powD (.int 10) (.int 39) = some (.int L)) (hT : TOk P ts) : F_l_are_weights [.int (P : Int), tsD ts, d] = some (.bool (formB L ts d && ansN P ts (wt (itemsD d)))) := by
  obtain ⟨hP, hl3, hTs⟩ := hT
  refine bodyP_of rfl ?_
  unfold S_l_are_weights
  rcases tup_cases d with ⟨xs, rfl⟩ | h
  · have en : neD (.int (xs.length : Int)) (.int (ts.length : Int)) = some (.bool (!decide ((xs.length : Int) = ts.length))) := neD_int
    show Runs _ _ _ (IsRt (.bool (rowsOk L xs ts && ansN P ts (wt xs))))
    by_cases hlen : xs.length = ts.length
    · rw [decide_eq_true (by omega)] at en
      refine .pass (c1 := (0, 0)) (by simp [isTup_yes, tsD, en]) ?_
      have f1 : few 1 = true := by decide
      refine .seq (ρ1 := [.im (.int (P : Int)), .im (tsD ts), .im (.tuple xs), .im (.int (whN ts (wt xs) 0 0)), .ol (fL P (smN ts (wt xs) 0 0)), .un, .un, .un, .un, .un, .un, .un]) (c1 := (0, 0)) ?_ ?_
      · have h0 : fL P (smN ts (wt xs) 0 0) = (List.replicate P [PyData.int 0]).flatten := by
          rw [fL_zero]; rfl
        have h1 : whN ts (wt xs) 0 0 = 0 := rfl
        rw [h0, h1]
        have g1 : P ≤ 1000000 := by omega
        have g2 : (-1000000 : Int) ≤ P := by omega
        have g3 : (P : Int) ≤ 1000000 := by omega
        simp [f1, g1, g2, g3]
      have lp := forS_rt (fun z => match z with | .tuple [x, .tuple [_, .tuple cs]] => !rowOk cs.length L x | _ => false) (c := (0, 0)) (d := .bool false) (tg := tripT) (body := (sThen [5, 6, 7] (sSeq (sIfS (sOr (sNot (sB (sIsi .tuple (sV 5)))) (sB (sOp neD (sCB lenD (sCons (sV 5) sNil)) (sCB lenD (sCons (sV 7) sNil)))))
 (sRet (sC (.bool false)))
 sNext)
 standL))) (xs := zipL xs (ts.map tfD))
        (st := fun i => [.im (.int (P : Int)), .im (tsD ts), .im (.tuple xs), .im (.int (whN ts (wt xs) i 0)), .ol (fL P (smN ts (wt xs) i 0)), .un, .un, .un, .un, .un, .un, .un]) (fun i z hz hb => by
          obtain ⟨x, y, hx, hy, rfl⟩ := zipL_get hz
          rw [List.getElem?_map] at hy
          obtain ⟨t, ht, rfl⟩ := Option.map_eq_some_iff.mp hy
          have hb : (!rowOk (iL t.2).length L x) = false := hb
          rw [iL_len, Bool.not_eq_false'] at hb
          unfold rowOk at hb
          cases x with
          | tuple ys =>
            have hb : (decide (ys.length = t.2.length) && ys.all (btw (-L) L)) = true := hb
            rw [Bool.and_eq_true, decide_eq_true_eq] at hb
            have h1 := standL_run (P := P) (i := i) (ts := ts) (t := t) (xs := xs) (ys := ys) (a0 := .im (.int (P : Int))) (a1 := .im (tsD ts)) (a2 := .im (.tuple xs)) (a11 := .un) (c := (0, 0)) hL hP ht (hTs t (List.mem_of_getElem? ht)) hx hb.1
            rw [if_pos hb.2] at h1
            have e1 : neD (.int (ys.length : Int)) (.int ((iL t.2).length : Int)) = some (.bool false) := by
              rw [iL_len, neD_int, decide_eq_true (by omega)]; rfl
            refine ⟨_, rfl, then_run (seq_run (DL.ifF (c1 := (0, 0)) ?_ rfl) h1) rfl⟩
            simp only [ev_sOr, ev_sNot, ev_sB, ev_sIsi, ev_sOp, ev_sCB, ev_sCons, ev_sNil, ev_sV, List.set_cons_succ, List.set_cons_zero, List.getElem?_cons_succ, List.getElem?_cons_zero, Option.bind_some, ev_lenT, e1, isTup_yes, Bool.not_true, Bool.false_eq_true, if_false]
          | _ => cases hb) (fun i z hz hb => by
          obtain ⟨x, y, hx, hy, rfl⟩ := zipL_get hz
          rw [List.getElem?_map] at hy
          obtain ⟨t, ht, rfl⟩ := Option.map_eq_some_iff.mp hy
          have hb : (!rowOk (iL t.2).length L x) = true := hb
          rw [iL_len, Bool.not_eq_true'] at hb
          rcases tup_cases x with ⟨ys, rfl⟩ | h
          · have hb : (decide (ys.length = t.2.length) && ys.all (btw (-L) L)) = false := hb
            by_cases hl : ys.length = t.2.length
            · have h1 := standL_run (P := P) (i := i) (ts := ts) (t := t) (xs := xs) (ys := ys) (a0 := .im (.int (P : Int))) (a1 := .im (tsD ts)) (a2 := .im (.tuple xs)) (a11 := .un) (c := (0, 0)) hL hP ht (hTs t (List.mem_of_getElem? ht)) hx hl
              rw [decide_eq_true hl, Bool.true_and] at hb
              rw [if_neg (by rw [hb]; decide)] at h1
              obtain ⟨ρ', h1⟩ := h1
              have e1 : neD (.int (ys.length : Int)) (.int ((iL t.2).length : Int)) = some (.bool false) := by
                rw [iL_len, neD_int, decide_eq_true (by omega)]; rfl
              refine ⟨_, _, rfl, then_rt (seq_run (DL.ifF (c1 := (0, 0)) ?_ rfl) h1)⟩
              simp only [ev_sOr, ev_sNot, ev_sB, ev_sIsi, ev_sOp, ev_sCB, ev_sCons, ev_sNil, ev_sV, List.set_cons_succ, List.set_cons_zero, List.getElem?_cons_succ, List.getElem?_cons_zero, Option.bind_some, ev_lenT, e1, isTup_yes, Bool.not_true, Bool.false_eq_true, if_false]
            · have e1 : neD (.int (ys.length : Int)) (.int ((iL t.2).length : Int)) = some (.bool true) := by
                rw [iL_len, neD_int, decide_eq_false (by omega)]; rfl
              refine ⟨_, _, rfl, then_rt (seq_rt (DL.ifT (c1 := (0, 0)) ?_ (ret_run ev_sC)))⟩
              simp only [ev_sOr, ev_sNot, ev_sB, ev_sIsi, ev_sOp, ev_sCB, ev_sCons, ev_sNil, ev_sV, List.set_cons_succ, List.set_cons_zero, List.getElem?_cons_succ, List.getElem?_cons_zero, Option.bind_some, ev_lenT, e1, isTup_yes, Bool.not_true, Bool.false_eq_true, if_false]
          · refine ⟨_, _, rfl, then_rt (seq_rt (DL.ifT (c1 := (0, 0)) ?_ (ret_run ev_sC)))⟩
            simp only [ev_sOr, ev_sNot, ev_sB, ev_sIsi, ev_sV, List.set_cons_succ, List.set_cons_zero, List.getElem?_cons_succ, List.getElem?_cons_zero, Option.bind_some, isTup_no h, Bool.not_false, if_true])
      have ea : ∀ {xs : List D} {ts : List TF}, xs.length = ts.length → (zipL xs (ts.map tfD)).all (fun z => !(match z with | .tuple [x, .tuple [_, .tuple cs]] => !rowOk cs.length L x | _ => false)) = rowsOk L xs ts := by
        intro xs
        induction xs with
        | nil =>
          intro ts h
          cases ts with
          | nil => rfl
          | cons => cases h
        | cons x xs ih =>
          intro ts h
          cases ts with
          | nil => cases h
          | cons t ts =>
            rw [List.map_cons, zipL, List.all_cons, ih (by simpa using h), rowsOk]
            show ((!!rowOk (iL t.2).length L x) && _) = _
            rw [iL_len, Bool.not_not]
      rw [ea hlen] at lp
      rw [zipL_len, List.length_map, hlen, Nat.min_self] at lp
      have ez : ∀ {body : SS} {ρ : Rho}, ρ[2]? = some (.im (.tuple xs)) → ρ[1]? = some (.im (tsD ts)) → sFor (sZip (sV 2) (sV 1)) tripT body ρ (0, 0) = forS tripT body (zipL xs (ts.map tfD)) ρ (0, 0) := fun {body ρ} h2 h1 => by
        unfold sFor
        simp only [ev_sZip, ev_sV, h1, h2, Option.bind_some, ev_seqT, tsD]
      cases hr : rowsOk L xs ts with
      | false =>
        rw [hr, if_neg (by decide)] at lp
        obtain ⟨ρ', lp⟩ := lp
        exact .rt ((ez rfl rfl).trans lp) rfl
      | true =>
        rw [hr, if_pos rfl] at lp
        refine .seq ((ez rfl rfl).trans lp) ?_
        refine .frz rfl ?_
        have f0 : few 0 = true := by decide
        have l5 := lcS_run (tg := qN 11) (t := sB (sOp neD (sV 11) (sC (.int 0)))) (e := sV 11) (ρ0 := [.im (.int (P : Int)), .im (tsD ts), .im (.tuple xs), .im (.int (whN ts (wt xs) ts.length 0)), .im (.list (fL P (smN ts (wt xs) ts.length 0))), .un, .un, .un, .un, .un, .un, .un]) (xs := fL P (smN ts (wt xs) ts.length 0)) (c := (0, 0)) (fun d => match d with | .int i => if i = 0 then none else some d | _ => none) (fun x hx => by
          obtain ⟨i, _, rfl⟩ := List.mem_map.mp hx
          refine ⟨_, rfl, ?_⟩
          have : neD (.int i) (.int 0) = some (.bool (!decide (i = 0))) := neD_int
          by_cases h : i = 0
          · subst h; simp [this]
          · simp [this, h])
        have en : neD (.int (whN ts (wt xs) ts.length 0)) (.int 0) = some (.bool (!decide (whN ts (wt xs) ts.length 0 = 0))) := neD_int
        have fp : few (fL P (smN ts (wt xs) ts.length 0)).length = true := few_of (by rw [fL_len]; omega)
        have eq : eqD (.list ((fL P (smN ts (wt xs) ts.length 0)).filterMap fun d => match d with | .int i => if i = 0 then none else some d | _ => none)) (.list []) = some (.bool ((List.range P).all fun q => decide (smN ts (wt xs) ts.length 0 q = 0))) := eqD_b (n := 1) (.list fun d hd => by
            obtain ⟨x, hx, e⟩ := List.mem_filterMap.mp hd
            obtain ⟨i, _, rfl⟩ := List.mem_map.mp hx
            have e : (if i = 0 then none else some (PyData.int i)) = some d := e
            split at e
            · cases e
            · cases e; exact pln_int) (.list fun d hd => by cases hd) (by decide) (by
          rw [List.all_eq_true]
          constructor
          · intro z
            congr 1
            rw [List.filterMap_eq_nil_iff]
            intro x hx
            unfold fL iL at hx
            rw [List.map_map] at hx
            obtain ⟨q, hq, rfl⟩ := List.mem_map.mp hx
            have := z q hq
            rw [decide_eq_true_eq] at this
            show (if smN ts (wt xs) ts.length 0 q = 0 then none else some _) = none
            rw [if_pos this]
          · intro z q hq
            have z' : ((fL P (smN ts (wt xs) ts.length 0)).filterMap fun d => match d with | .int i => if i = 0 then none else some d | _ => none) = [] := by injection z
            have := List.filterMap_eq_nil_iff.mp z' (.int (smN ts (wt xs) ts.length 0 q)) (by
              unfold fL iL
              rw [List.map_map]
              exact List.mem_map_of_mem (f := PyData.int ∘ smN ts (wt xs) ts.length 0) hq)
            have this : (if smN ts (wt xs) ts.length 0 q = 0 then none else some _) = none := this
            rw [decide_eq_true_eq]
            by_cases w : smN ts (wt xs) ts.length 0 q = 0
            · exact w
            · rw [if_neg w] at this; cases this)
        refine .ret (d := .bool (ansN P ts (wt xs))) (c1 := (0, 0)) ?_ (by simp)
        simp only [ev_sAndV, ev_sB, ev_sOp, ev_sV, ev_sC, ev_sOfL, ev_sLc, ev_sItL, ev_sLst, ev_sNil, List.set_cons_succ, List.set_cons_zero, List.getElem?_cons_succ, List.getElem?_cons_zero, Option.bind_some, en, fp, if_true, ev_wipe0, ev_wipe1]
        rw [l5]
        simp only [Option.bind_some, List.length_nil, f0, if_true, eq]
        unfold ansN
        cases (!decide (whN ts (wt xs) ts.length 0 = 0)) <;> rfl
    · rw [decide_eq_false (by omega)] at en
      rw [rowsOk_ne hlen]
      exact .leave (c1 := (0, 0)) (c2 := (0, 0)) (d := .bool false) (by simp [isTup_yes, tsD, en]) rfl rfl
  · have e1 := isTup_no h
    have e2 : formB L ts d = false := by unfold formB; rw [h]
    rw [e2]
    exact .leave (c1 := (0, 0)) (c2 := (0, 0)) (d := .bool false) (by simp [e1]) rfl rfl
end
end X
namespace X
open PySem PySem.Spec L2 DL DM
/-! the greatest common divisor -/
abbrev euclS (n : Nat) : SS := whileS (sB (sOp neD (sV 1) (sC (.int 0)))) (sMany [0, 1] (sAvP (sV 1) (sAvP (sOp modN (sV 0) (sV 1)) sAvNil))) n
theorem eucl_0 {n : Nat} {a : Int} {c : Dr} : euclS (n + 1) [.im (.int a), .im (.int 0)] c = some (.nx, [.im (.int a), .im (.int 0)], c) := by
  have : neD (.int 0) (.int 0) = some (.bool false) := rfl
  show ((sB (sOp neD (sV 1) (sC (.int 0))) [.im (.int a), .im (.int 0)] c).bind fun p => _) = _
  simp [this]
theorem eucl_s {n : Nat} {a b : Int} {c : Dr} (hb : b ≠ 0) : euclS (n + 1) [.im (.int a), .im (.int b)] c = euclS n [.im (.int b), .im (.int (a.fmod b))] c := by
  have e1 : neD (.int b) (.int 0) = some (.bool true) := by rw [neD_int, decide_eq_false hb]; rfl
  have e2 : modN (.int a) (.int b) = some (.int (a.fmod b)) := by
    show (if b = 0 then none else some (PyData.int (a.fmod b))) = _
    rw [if_neg hb]
  show ((sB (sOp neD (sV 1) (sC (.int 0))) [.im (.int a), .im (.int b)] c).bind fun p => _) = _
  simp [e1, e2]
theorem fmod_sg {x y : Nat} {s : Int} (hs : s = 1 ∨ s = -1) : (s * x).fmod (s * y) = s * ((x % y : Nat) : Int) := by
  rcases hs with rfl | rfl
  · rw [Int.one_mul, Int.one_mul, Int.one_mul, Int.fmod_eq_emod_of_nonneg _ (by omega)]; rfl
  · rw [Int.neg_mul, Int.one_mul, Int.neg_mul, Int.one_mul, Int.neg_fmod_neg, Int.fmod_eq_emod_of_nonneg _ (by omega), Int.neg_mul, Int.one_mul]; rfl
theorem eucl_nat {c : Dr} {s : Int} (hs : s = 1 ∨ s = -1) : ∀ (k n x y : Nat), y < 2 ^ k → 2 * k + 1 ≤ n → euclS n [.im (.int (s * x)), .im (.int (s * y))] c = some (.nx, [.im (.int (s * (Nat.gcd x y : Nat))), .im (.int 0)], c)
  | 0, n, x, y, hy, hn => by
    have : y = 0 := by simpa using hy
    subst this
    obtain ⟨n, rfl⟩ : ∃ m, n = m + 1 := ⟨n - 1, by omega⟩
    rw [show s * ((0 : Nat) : Int) = 0 by simp, eucl_0, Nat.gcd_zero_right]
  | k + 1, n, x, y, hy, hn => by
    obtain ⟨n, rfl⟩ : ∃ m, n = m + 2 := ⟨n - 2, by omega⟩
    by_cases h0 : y = 0
    · subst h0
      rw [show s * ((0 : Nat) : Int) = 0 by simp, eucl_0, Nat.gcd_zero_right]
    · have g0 : s * (y : Int) ≠ 0 := by rcases hs with rfl | rfl <;> omega
      rw [eucl_s g0, fmod_sg hs]
      have hz : x % y < y := Nat.mod_lt _ (by omega)
      have eg : Nat.gcd x y = Nat.gcd y (x % y) := by rw [Nat.gcd_comm x y, Nat.gcd_rec y x, Nat.gcd_comm]
      rw [eg]
      generalize x % y = z at hz
      by_cases h1 : z = 0
      · subst h1
        rw [show s * ((0 : Nat) : Int) = 0 by simp, eucl_0, Nat.gcd_zero_right]
      · have g1 : s * (z : Int) ≠ 0 := by rcases hs with rfl | rfl <;> omega
        rw [eucl_s g1, fmod_sg hs]
        have hw : y % z < z := Nat.mod_lt _ (by omega)
        have hw2 : y % z ≤ y - z := by
          rw [Nat.mod_eq_sub_mod (by omega)]
          exact Nat.mod_le _ _
        have eg : Nat.gcd y z = Nat.gcd z (y % z) := by rw [Nat.gcd_comm y z, Nat.gcd_rec z y, Nat.gcd_comm]
        rw [eg]
        exact eucl_nat hs k n z (y % z) (by rw [Nat.pow_succ] at hy; omega) (by omega)
theorem gcd_fmod {a b : Int} : Int.gcd b (a.fmod b) = Int.gcd a b := by
  have h := Int.gcd_add_mul_left_right b a (-(a.fdiv b))
  have e : a + b * -(a.fdiv b) = a.fmod b := by rw [Int.fmod_def, Int.mul_neg]; omega
  rw [e] at h
  rw [h, Int.gcd_comm]
theorem fmod_abs {a b : Int} (hb : b ≠ 0) : ∃ (s : Int) (y z : Nat), (s = 1 ∨ s = -1) ∧ b = s * y ∧ a.fmod b = s * z ∧ z < y ∧ y = b.natAbs := by
  rcases Int.lt_or_gt_of_ne hb with h | h
  · have e1 : a.fmod b = -((-a) % (-b)) := by
      have := Int.neg_fmod_neg (-a) (-b)
      rw [Int.neg_neg, Int.neg_neg] at this
      rw [this, Int.fmod_eq_emod_of_nonneg _ (by omega)]
    have h1 := Int.emod_nonneg (-a) (show -b ≠ 0 by omega)
    have h2 := Int.emod_lt_of_pos (-a) (show 0 < -b by omega)
    refine ⟨-1, b.natAbs, ((-a) % (-b)).toNat, .inr rfl, by omega, ?_, by omega, rfl⟩
    rw [e1]; omega
  · have e1 : a.fmod b = a % b := Int.fmod_eq_emod_of_nonneg _ (by omega)
    have h1 := Int.emod_nonneg a (show b ≠ 0 by omega)
    have h2 := Int.emod_lt_of_pos a (show 0 < b by omega)
    refine ⟨1, b.natAbs, (a % b).toNat, .inl rfl, by omega, ?_, by omega, rfl⟩
    rw [e1]; omega
theorem F_common_eq {a b : Int} (hb : b.natAbs < 1099511627776) : F_common [.int a, .int b] = some (.int (Int.gcd a b : Nat)) := by
  refine bodyP_of rfl ?_
  unfold S_common
  have hg : ∃ g : Int, euclS 100 [.im (.int a), .im (.int b)] (0, 0) = some (.nx, [.im (.int g), .im (.int 0)], (0, 0)) ∧ (if g < 0 then -g else g) = (Int.gcd a b : Nat) := by
    by_cases h : b = 0
    · subst h
      refine ⟨a, eucl_0, ?_⟩
      rw [Int.gcd_zero_right]
      split <;> omega
    · rw [eucl_s h]
      obtain ⟨s, y, z, hs, h1, h2, h3, h4⟩ := fmod_abs (a := a) h
      have eg : Int.gcd a b = Nat.gcd y z := by
        rw [← gcd_fmod, h2, h1]
        rcases hs with rfl | rfl
        · simp [Int.gcd]
        · simp [Int.gcd]
      have hy40 : z < 2 ^ 40 := Nat.lt_trans h3 (by omega)
      refine ⟨s * (Nat.gcd y z : Nat), by rw [h2, h1]; exact eucl_nat hs 40 99 y z hy40 (by decide), ?_⟩
      rw [eg]
      rcases hs with rfl | rfl
      · split <;> omega
      · split <;> omega
  obtain ⟨g, e1, e2⟩ := hg
  refine .seq e1 ?_
  refine .ret (d := .int (Int.gcd a b : Nat)) (c1 := (0, 0)) ?_ (by simp)
  have : absD [.int g] = some (.int (Int.gcd a b : Nat)) := by
    show some (PyData.int (if g < 0 then -g else g)) = _
    rw [e2]
  simp [this]
theorem F_l_common_eq {a b : Int} (hb : b.natAbs < 1099511627776) : F_l_common [.int a, .int b] = some (.int (Int.gcd a b : Nat)) := F_common_eq hb
end X
namespace X
open PySem PySem.Spec L2 DL DM
/-! rows: places, count, weights -/
def offN (ts : List TF) : Nat → Nat
  | 0 => 0
  | i + 1 => offN ts i + nN ts i
def MN (ts : List TF) : Nat := offN ts ts.length
theorem offN_mono {ts : List TF} {i : Nat} : ∀ {k : Nat}, i < k → offN ts i + nN ts i ≤ offN ts k
  | 0, h => absurd h (by omega)
  | k + 1, h => by
    show _ ≤ offN ts k + nN ts k
    by_cases e : i = k
    · subst e; omega
    · have := offN_mono (ts := ts) (i := i) (k := k) (by omega)
      omega
theorem offN_lt {ts : List TF} {i j : Nat} (hi : i < ts.length) (hj : j < nN ts i) : offN ts i + j < MN ts := by
  have := offN_mono (ts := ts) hi
  unfold MN; omega
def wR (P : Nat) (ts : List TF) (r : List Int) (i j : Nat) : Int := gI r (P + 1 + (offN ts i + j))
def ds (ts : List TF) (w g : Nat → Nat → Int) : Int := sumN ts.length fun a => sumN (nN ts a) fun b => w a b * g a b
theorem whN_ds {ts : List TF} {w : Nat → Nat → Int} : whN ts w ts.length 0 = ds ts w (cN ts) := by
  unfold whN ds; rw [sumN0]; omega
theorem smN_ds {ts : List TF} {w : Nat → Nat → Int} {q : Nat} : smN ts w ts.length 0 q = ds ts w fun a b => cv (fN ts a) q b := by
  unfold smN ds; rw [sumN0, Int.add_zero]
theorem sumN_lin {f g h : Nat → Int} {a b : Int} : ∀ {n : Nat}, (∀ j, j < n → f j = g j * a - h j * b) → sumN n f = sumN n g * a - sumN n h * b
  | 0, _ => by simp [sumN0]
  | n + 1, H => by
    rw [sumNs, sumNs, sumNs, sumN_lin (n := n) fun j hj => H j (by omega), H n (by omega), Int.add_mul, Int.add_mul]
    omega
theorem ds_lin {ts : List TF} {w w1 w2 g : Nat → Nat → Int} {a b : Int} (H : ∀ i j, i < ts.length → j < nN ts i → w i j = w1 i j * a - w2 i j * b) : ds ts w g = ds ts w1 g * a - ds ts w2 g * b := by
  unfold ds
  refine sumN_lin fun i hi => sumN_lin fun j hj => ?_
  rw [H i j hi hj, Int.sub_mul, Int.mul_right_comm, Int.mul_right_comm (w2 i j)]
theorem ds_congr {ts : List TF} {w w1 g : Nat → Nat → Int} (H : ∀ i j, i < ts.length → j < nN ts i → w i j = w1 i j) : ds ts w g = ds ts w1 g := by
  unfold ds
  refine sumN_congr fun i hi => sumN_congr fun j hj => ?_
  rw [H i j hi hj]
theorem sumN_pick {v : Int} {i : Nat} : ∀ {n : Nat}, sumN n (fun k => if k = i then v else 0) = if i < n then v else 0
  | 0 => by simp [sumN0]
  | n + 1 => by
    rw [sumNs, sumN_pick (n := n)]
    by_cases h : i < n
    · rw [if_pos h, if_neg (by omega), if_pos (by omega)]; omega
    · by_cases e : n = i
      · subst e; simp
      · rw [if_neg h, if_neg e, if_neg (by omega)]; omega
theorem ds_delta {ts : List TF} {g : Nat → Nat → Int} {i j : Nat} (hi : i < ts.length) (hj : j < nN ts i) : ds ts (fun a b => if offN ts a + b = offN ts i + j then 1 else 0) g = g i j := by
  unfold ds
  have e : ∀ a, a < ts.length → (sumN (nN ts a) fun b => (if offN ts a + b = offN ts i + j then 1 else 0) * g a b) = if a = i then g i j else 0 := fun a ha => by
    by_cases h : a = i
    · subst h
      rw [if_pos rfl]
      have e2 : (sumN (nN ts a) fun b => (if offN ts a + b = offN ts a + j then 1 else 0) * g a b) = sumN (nN ts a) fun k => if k = j then g a j else 0 := sumN_congr fun b _ => by
        by_cases hb : b = j
        · subst hb; simp
        · rw [if_neg (by omega), if_neg hb]; simp
      rw [e2, sumN_pick, if_pos hj]
    · rw [if_neg h]
      have e2 : (sumN (nN ts a) fun b => (if offN ts a + b = offN ts i + j then 1 else 0) * g a b) = sumN (nN ts a) fun _ => 0 := sumN_congr fun b hb => by
        have : ¬ (offN ts a + b = offN ts i + j) := by
          rcases Nat.lt_or_gt_of_ne h with q | q
          · have := offN_mono (ts := ts) q; omega
          · have := offN_mono (ts := ts) q; omega
        rw [if_neg this]; simp
      rw [e2, sumN_const]; simp
  rw [sumN_congr e, sumN_pick, if_pos hi]
/-- a row that is the sum of its weights' stands -/
structure RI (P : Nat) (ts : List TF) (p : Nat) (B : Int) (r : List Int) : Prop where
  len : r.length = P + 1 + MN ts
  lin : ∀ q, q < P → gI r q = ds ts (wR P ts r) fun a b => cv (fN ts a) q b
  linc : gI r P = ds ts (wR P ts r) (cN ts)
  iv : ∃ (a e : Nat) (s : Int), (s = 1 ∨ s = -1) ∧ p ≤ a ∧ ∀ q, q < P → gI r q = if a ≤ q ∧ q < e then s else 0
  bd : ∀ k, k < r.length → -B ≤ gI r k ∧ gI r k ≤ B
  wb : ∀ k, P + 1 ≤ k → k < r.length → -((2 ^ p : Nat) : Int) ≤ gI r k ∧ gI r k ≤ ((2 ^ p : Nat) : Int)
def zipR (r o : List Int) (p : Nat) : List Int := List.zipWith (fun x y => x * gI o p - y * gI r p) r o
theorem zipR_len {r o : List Int} {p : Nat} (h : r.length = o.length) : (zipR r o p).length = r.length := by unfold zipR; rw [List.length_zipWith]; omega
theorem zipR_get {r o : List Int} {p k : Nat} (h : r.length = o.length) (hk : k < r.length) : gI (zipR r o p) k = gI r k * gI o p - gI o k * gI r p := by
  unfold zipR gI
  rw [List.getD_eq_getElem?_getD, List.getElem?_zipWith, List.getElem?_eq_getElem hk, List.getElem?_eq_getElem (show k < o.length by omega)]
  simp [List.getD, hk, show k < o.length by omega]
section
variable {P p : Nat} {ts : List TF} {B : Int} {r o : List Int}
theorem RI.zip (hr : RI P ts p B r) (ho : RI P ts p B o) (hp : p < P) (h1 : gI r p ≠ 0) (h2 : gI o p ≠ 0) : RI P ts (p + 1) (2 * B) (zipR r o p) := by
  have hl : r.length = o.length := hr.len.trans ho.len.symm
  have hw : ∀ i j, i < ts.length → j < nN ts i → wR P ts (zipR r o p) i j = wR P ts r i j * gI o p - wR P ts o i j * gI r p := fun i j hi hj => by
    have := offN_lt hi hj
    exact zipR_get hl (by rw [hr.len]; omega)
  obtain ⟨a1, e1, s1, g1, l1, v1⟩ := hr.iv
  obtain ⟨a2, e2, s2, g2, l2, v2⟩ := ho.iv
  have c1 : a1 = p ∧ p < e1 := by
    have := v1 p hp
    by_cases z : a1 ≤ p ∧ p < e1
    · omega
    · rw [if_neg z] at this; exact absurd this h1
  have c2 : a2 = p ∧ p < e2 := by
    have := v2 p hp
    by_cases z : a2 ≤ p ∧ p < e2
    · omega
    · rw [if_neg z] at this; exact absurd this h2
  obtain ⟨rfl, q1⟩ := c1
  obtain ⟨c2, q2⟩ := c2
  subst c2
  have b1 : gI r a2 = s1 := by rw [v1 _ hp, if_pos (by omega)]
  have b2 : gI o a2 = s2 := by rw [v2 _ hp, if_pos (by omega)]
  refine ⟨by rw [zipR_len hl, hr.len], fun q hq => ?_, ?_, ?_, fun k hk => ?_, fun k hk0 hk => ?_⟩
  · rw [ds_lin hw, zipR_get hl (by rw [hr.len]; omega), hr.lin q hq, ho.lin q hq]
  · rw [ds_lin hw, zipR_get hl (by rw [hr.len]; omega), hr.linc, ho.linc]
  · by_cases z : e1 ≤ e2
    · refine ⟨e1, e2, -(s1 * s2), ?_, by omega, fun q hq => ?_⟩
      · rcases g1 with rfl | rfl <;> rcases g2 with rfl | rfl <;> decide
      · rw [zipR_get hl (by rw [hr.len]; omega), b1, b2, v1 q hq, v2 q hq]
        rcases g1 with rfl | rfl <;> rcases g2 with rfl | rfl <;> (split <;> split <;> split <;> omega)
    · refine ⟨e2, e1, s1 * s2, ?_, by omega, fun q hq => ?_⟩
      · rcases g1 with rfl | rfl <;> rcases g2 with rfl | rfl <;> decide
      · rw [zipR_get hl (by rw [hr.len]; omega), b1, b2, v1 q hq, v2 q hq]
        rcases g1 with rfl | rfl <;> rcases g2 with rfl | rfl <;> (split <;> split <;> split <;> omega)
  · rw [zipR_len hl] at hk
    rw [zipR_get hl hk, b1, b2]
    have d1 := hr.bd k hk
    have d2 := ho.bd k (by omega)
    rcases g1 with rfl | rfl <;> rcases g2 with rfl | rfl <;> omega
  · rw [zipR_len hl] at hk
    rw [zipR_get hl hk, b1, b2]
    have d1 := hr.wb k hk0 hk
    have d2 := ho.wb k hk0 (by omega)
    rw [Nat.pow_succ]
    generalize 2 ^ a2 = W at d1 d2 ⊢
    rcases g1 with rfl | rfl <;> rcases g2 with rfl | rfl <;> omega
theorem RI.zero (hr : RI P ts p B r) (hp : p < P) (h1 : gI r p = 0) {B' : Int} (hB : B ≤ B') : RI P ts (p + 1) B' r := by
  obtain ⟨a1, e1, s1, g1, l1, v1⟩ := hr.iv
  refine ⟨hr.len, hr.lin, hr.linc, ⟨max a1 (p + 1), e1, s1, g1, by omega, fun q hq => ?_⟩, fun k hk => by have := hr.bd k hk; omega, fun k hk0 hk => by
    have := hr.wb k hk0 hk
    rw [Nat.pow_succ]
    generalize 2 ^ p = W at this ⊢
    omega⟩
  rw [v1 q hq]
  have := v1 p hp
  rw [h1] at this
  have hn : ¬ (a1 ≤ p ∧ p < e1) := fun z => by
    rw [if_pos z] at this
    omega
  by_cases z : a1 ≤ q ∧ q < e1
  · rw [if_pos z, if_pos (by omega)]
  · rw [if_neg z, if_neg (by omega)]
end
/-! lessened -/
def gcdN (r : List Int) : Nat → Int
  | 0 => 0
  | n + 1 => (Int.gcd (gcdN r n) (gI r n) : Nat)
theorem gcdN_nn {r : List Int} : ∀ n, 0 ≤ gcdN r n
  | 0 => Int.le_refl _
  | n + 1 => by show (0 : Int) ≤ ((_ : Nat) : Int); omega
theorem gcdN_dvd {r : List Int} {k : Nat} : ∀ {n : Nat}, k < n → gcdN r n ∣ gI r k
  | 0, h => absurd h (by omega)
  | n + 1, h => by
    show ((Int.gcd (gcdN r n) (gI r n) : Nat) : Int) ∣ _
    by_cases e : k = n
    · subst e; exact Int.gcd_dvd_right _ _
    · exact Int.dvd_trans (Int.gcd_dvd_left _ _) (gcdN_dvd (by omega))
theorem gcdN_le {r : List Int} {B : Int} (hB : 0 ≤ B) : ∀ {n : Nat}, (∀ k, k < n → -B ≤ gI r k ∧ gI r k ≤ B) → gcdN r n ≤ B
  | 0, _ => hB
  | n + 1, h => by
    have ih := gcdN_le hB (n := n) fun k hk => h k (by omega)
    have hx := h n (by omega)
    have nn := gcdN_nn (r := r) n
    show ((Int.gcd (gcdN r n) (gI r n) : Nat) : Int) ≤ B
    by_cases z : gcdN r n = 0
    · rw [z, Int.gcd_zero_left]; omega
    · have := Int.gcd_le_natAbs_left (gI r n) z
      omega
def lessL (r : List Int) : List Int := if 1 < gcdN r r.length then r.map (fun x => x / gcdN r r.length) else r
theorem RI.less {P p : Nat} {ts : List TF} {B : Int} {r : List Int} (hr : RI P ts p B r) : RI P ts p B (lessL r) := by
  unfold lessL
  by_cases h : 1 < gcdN r r.length
  · rw [if_pos h]
    have hd : ∀ k, k < r.length → gI r k = gI (r.map fun x => x / gcdN r r.length) k * gcdN r r.length := fun k hk => by
      rw [gI_map hk, Int.ediv_mul_cancel (gcdN_dvd hk)]
    generalize gcdN r r.length = g at h hd
    generalize ez : (r.map fun x => x / g) = z at hd
    have hzl : z.length = r.length := by rw [← ez, List.length_map]
    have hw : ∀ i j, i < ts.length → j < nN ts i → wR P ts r i j = wR P ts z i j * g - 0 * 0 := fun i j hi hj => by
      have := offN_lt hi hj
      have e := hd (P + 1 + (offN ts i + j)) (by rw [hr.len]; omega)
      unfold wR
      rw [e]; omega
    have can : ∀ {x y : Int}, x * g = y * g - 0 * 0 → x = y := fun {x y} e => Int.eq_of_mul_eq_mul_right (show g ≠ 0 by omega) (by omega)
    have hw' : ∀ g', ds ts (wR P ts r) g' = ds ts (wR P ts z) g' * g - 0 * 0 := fun g' => by
      have := ds_lin (ts := ts) (w := wR P ts r) (w1 := wR P ts z) (w2 := fun _ _ => 0) (g := g') (a := g) (b := 0) hw
      rw [this, Int.mul_zero]; rfl
    refine ⟨hzl.trans hr.len, fun q hq => can ?_, can ?_, ⟨p, 0, 1, .inl rfl, Nat.le_refl _, fun q hq => ?_⟩, fun k hk => ?_, fun k hk0 hk => ?_⟩
    · rw [← hd q (by rw [hr.len]; omega), hr.lin q hq, hw']
    · rw [← hd P (by rw [hr.len]; omega), hr.linc, hw']
    · rw [if_neg (by omega)]
      obtain ⟨a, e, s, g1, l1, v1⟩ := hr.iv
      have e1 := hd q (by rw [hr.len]; omega)
      rw [v1 q hq] at e1
      by_cases w : a ≤ q ∧ q < e
      · rw [if_pos w] at e1
        exfalso
        have hdv : g ∣ s := ⟨gI z q, by rw [e1, Int.mul_comm]⟩
        have : g ∣ 1 := by
          rcases g1 with rfl | rfl
          · exact hdv
          · exact Int.dvd_neg.mp hdv
        have := Int.le_of_dvd (by decide) this
        omega
      · rw [if_neg w] at e1
        rcases Int.mul_eq_zero.mp e1.symm with u | u
        · exact u
        · omega
    · have e1 := hd k (by omega)
      have b1 := hr.bd k (by omega)
      have e2 : (gI r k).natAbs = (gI z k).natAbs * g.natAbs := by rw [e1, Int.natAbs_mul]
      have : (gI z k).natAbs ≤ (gI z k).natAbs * g.natAbs := Nat.le_mul_of_pos_right _ (by omega)
      omega
    · have e1 := hd k (by omega)
      have b1 := hr.wb k hk0 (by omega)
      have e2 : (gI r k).natAbs = (gI z k).natAbs * g.natAbs := by rw [e1, Int.natAbs_mul]
      have : (gI z k).natAbs ≤ (gI z k).natAbs * g.natAbs := Nat.le_mul_of_pos_right _ (by omega)
      generalize 2 ^ p = W at b1 ⊢
      omega
  · rw [if_neg h]; exact hr
/-- what divides all is not beyond the weights -/
theorem RI.gcd {P p : Nat} {ts : List TF} {B : Int} {r : List Int} (hr : RI P ts p B r) : gcdN r r.length ≤ ((2 ^ p : Nat) : Int) := by
  by_cases h : ∀ k, P + 1 ≤ k → k < r.length → gI r k = 0
  · have hw : ∀ i j, i < ts.length → j < nN ts i → wR P ts r i j = (fun _ _ => (0 : Int)) i j * 0 - 0 * 0 := fun i j hi hj => by
      have := offN_lt hi hj
      exact (h (P + 1 + (offN ts i + j)) (by omega) (by rw [hr.len]; omega)).trans (by simp)
    have hz : ∀ g', ds ts (wR P ts r) g' = 0 := fun g' => by
      have := ds_lin (ts := ts) (w := wR P ts r) (w1 := fun _ _ => 0) (w2 := fun _ _ => 0) (g := g') (a := 0) (b := 0) hw
      rw [this]; simp
    have all0 : ∀ k, k < r.length → gI r k = 0 := fun k hk => by
      by_cases h1 : k < P
      · rw [hr.lin k h1, hz]
      · by_cases h2 : k = P
        · subst h2; rw [hr.linc, hz]
        · exact h k (by omega) hk
    have : gcdN r r.length ≤ 0 := gcdN_le (Int.le_refl _) fun k hk => by have := all0 k hk; omega
    generalize 2 ^ p = W
    omega
  · obtain ⟨k, hk⟩ : ∃ k, ¬ (P + 1 ≤ k → k < r.length → gI r k = 0) := Classical.byContradiction fun hn => h fun k => Classical.byContradiction fun hk => hn ⟨k, hk⟩
    have h1 : P + 1 ≤ k := Classical.byContradiction fun z => hk fun a => absurd a z
    have h2 : k < r.length := Classical.byContradiction fun z => hk fun _ a => absurd a z
    have h3 : gI r k ≠ 0 := fun z => hk fun _ _ => z
    have d := gcdN_dvd (r := r) h2
    have nn := gcdN_nn (r := r) r.length
    have b := hr.wb k h1 h2
    generalize 2 ^ p = W at b ⊢
    generalize gcdN r r.length = g at d nn ⊢
    have : g.natAbs ∣ (gI r k).natAbs := Int.natAbs_dvd_natAbs.mpr d
    have := Nat.le_of_dvd (by omega) this
    omega
end X
namespace X
open PySem PySem.Spec L2 DL DM
def Bd (B : Int) (r : List Int) : Prop := ∀ k, k < r.length → -B ≤ gI r k ∧ gI r k ≤ B
theorem Bd.mem {B : Int} {r : List Int} (h : Bd B r) {x : Int} (hx : x ∈ r) : -B ≤ x ∧ x ≤ B := by
  obtain ⟨k, hk, rfl⟩ := List.getElem_of_mem hx
  have := h k hk
  unfold gI at this
  simpa [List.getD, hk] using this
theorem F_lessened_eq {B : Int} {r : List Int} (hB : 0 ≤ B) (hB2 : B < 1099511627776) (hg30 : gcdN r r.length < 1073741824) (h : Bd B r) (hl : r.length ≤ 1000) : F_lessened [.list (iL r)] = some (.list (iL (lessL r))) := by
  refine bodyP_of rfl ?_
  unfold S_lessened
  refine .seq (ρ1 := [.im (.list (iL r)), .im (.int (gcdN r 0)), .un]) (c1 := (0, 0)) (by simp [gcdN]) ?_
  have lp := for_run (c1 := (0, 0)) (c := (0, 0)) (fi := sItL (sV 0)) (tg := qN 2) (body := sThen [2] (sAsg (sCall F_common (sCons (sV 1) (sCons (sV 2) sNil))) (qN 1))) (ρ := [.im (.list (iL r)), .im (.int (gcdN r 0)), .un]) (xs := iL r) (st := fun i => [.im (.list (iL r)), .im (.int (gcdN r i)), .un]) (by simp) rfl fun i x hx => by
    have hi : i < r.length := by
      have := (List.getElem?_eq_some_iff.mp hx).1
      rwa [iL_len] at this
    have e1 : x = .int (gI r i) := by
      rw [iL_get, List.getElem?_eq_getElem hi] at hx
      unfold gI
      simp [List.getD, hi] at hx ⊢
      exact hx.symm
    subst e1
    have hb := h i hi
    have e2 : F_common [.int (gcdN r i), .int (gI r i)] = some (.int (gcdN r (i + 1))) := F_common_eq (by omega)
    refine ⟨_, rfl, then_run (ρ1 := [.im (.list (iL r)), .im (.int (gcdN r (i + 1))), .im (.int (gI r i))]) ?_ rfl⟩
    simp [e2]
  rw [iL_len] at lp
  refine .seq lp ?_
  have fr : few (iL r).length = true := few_of (by rw [iL_len]; omega)
  unfold lessL
  generalize gcdN r r.length = g at hg30 ⊢
  by_cases hg : 1 < g
  · rw [if_pos hg]
    have l1 := lcS_map (tg := qN 2) (e := sOp fdivD (sV 2) (sV 1)) (ρ0 := [.im (.list (iL r)), .im (.int g), .un]) (xs := iL r) (c := (0, 0)) (fun d => match d with | .int i => .int (i / g) | d => d) (fun x hx => by
      obtain ⟨i, _, rfl⟩ := List.mem_map.mp hx
      have : fdivD (.int i) (.int g) = some (.int (i / g)) := fdivI (by omega) (by omega)
      exact ⟨_, rfl, by simp [this]⟩)
    have e5 : (iL r).map (fun d => match d with | .int i => PyData.int (i / g) | d => d) = iL (r.map fun x => x / g) := by
      unfold iL; rw [List.map_map, List.map_map]; rfl
    rw [e5] at l1
    refine .ret (d := .list (iL (r.map fun x => x / g))) (c1 := (0, 0)) ?_ (by simp)
    have hr1 : r.length ≤ 1000000 := by omega
    simp only [ev_sIfE, ev_sB, ev_sOp, ev_sV, ev_sC, List.getElem?_cons_succ, List.getElem?_cons_zero, Option.bind_some, ev_cmpII, decide_eq_true hg, if_true, ev_sOfL, ev_sLc, ev_sItL, fr, ev_wipe0, ev_wipe1, List.set_cons_succ, List.set_cons_zero, l1]
  · rw [if_neg hg]
    refine .ret (d := .list (iL r)) (c1 := (0, 0)) ?_ (by simp)
    simp [hg]
theorem zip_map {f : Int → Int → Int} {F : D → D} (hF : ∀ x y, F (.tuple [.int x, .int y]) = .int (f x y)) : ∀ {r o : List Int}, (zipL (iL r) (iL o)).map F = iL (List.zipWith f r o)
  | [], _ => by simp [iL, zipL]
  | _ :: _, [] => by simp [iL, zipL]
  | x :: r, y :: o => by
    have ih := zip_map hF (r := r) (o := o)
    show F (.tuple [.int x, .int y]) :: (zipL (iL r) (iL o)).map F = .int (f x y) :: iL (List.zipWith f r o)
    rw [ih, hF]
theorem zip_mem : ∀ {r o : List Int} {z : D}, z ∈ zipL (iL r) (iL o) → ∃ x y, z = .tuple [.int x, .int y]
  | [], _, z, h => by simp [iL, zipL] at h
  | _ :: _, [], z, h => by simp [iL, zipL] at h
  | x :: r, y :: o, z, h => by
    have h : z ∈ PyData.tuple [.int x, .int y] :: zipL (iL r) (iL o) := h
    rcases List.mem_cons.mp h with e | e
    · exact ⟨x, y, e⟩
    · exact zip_mem e
theorem F_without_eq {B : Int} {r o : List Int} {p : Nat} (hB : 0 ≤ B) (hB2 : B < 1099511627776) (hg30 : gcdN (zipR r o p) (zipR r o p).length < 1073741824) (hlen : r.length = o.length) (hl : r.length ≤ 1000) (hp : p < r.length) (h1 : (gI r p).natAbs < 18446744073709551616) (h2 : (gI o p).natAbs < 18446744073709551616) (hz : Bd B (zipR r o p)) : F_without [.list (iL r), .list (iL o), .int (p : Int)] = some (.list (iL (lessL (zipR r o p)))) := by
  refine bodyP_of rfl ?_
  unfold S_without
  have l1 := lcS_map (tg := qTup (qCons (qN 3) (qCons (qN 4) qNil))) (e := sOp subD (sOp mulD (sV 3) (sOp ixD (sV 1) (sV 2))) (sOp mulD (sV 4) (sOp ixD (sV 0) (sV 2)))) (ρ0 := [.im (.list (iL r)), .im (.list (iL o)), .im (.int (p : Int)), .un, .un]) (xs := zipL (iL r) (iL o)) (c := (0, 0)) (fun d => match d with | .tuple [.int x, .int y] => .int (x * gI o p - y * gI r p) | d => d) (fun z hz => by
    obtain ⟨x, y, rfl⟩ := zip_mem hz
    have e1 := atI_iL (xs := r) (j := p) hp
    have e2 := atI_iL (xs := o) (j := p) (by omega)
    have e3 : mulD (.int x) (.int (gI o p)) = some (.int (x * gI o p)) := mulI2 h2
    have e4 : mulD (.int y) (.int (gI r p)) = some (.int (y * gI r p)) := mulI2 h1
    exact ⟨_, rfl, by simp [e1, e2, e3, e4]⟩)
  have e5 : (zipL (iL r) (iL o)).map (fun d => match d with | .tuple [.int x, .int y] => .int (x * gI o p - y * gI r p) | d => d) = iL (zipR r o p) := zip_map (f := fun x y => x * gI o p - y * gI r p) (fun x y => rfl)
  rw [e5] at l1
  have fz : few (zipL (iL r) (iL o)).length = true := few_of (by rw [zipL_len, iL_len]; omega)
  have eL := F_lessened_eq hB hB2 hg30 hz (by rw [zipR_len hlen]; exact hl)
  refine .ret (d := .list (iL (lessL (zipR r o p)))) (c1 := (0, 0)) ?_ (by simp)
  simp only [ev_sCall, ev_sCons, ev_sNil, ev_sOfL, ev_sLc, ev_sZip, ev_sV, List.map_cons, List.map_nil, List.cons_append, List.nil_append, List.replicate_succ, List.replicate_zero, List.getElem?_cons_succ, List.getElem?_cons_zero, Option.bind_some, ev_seqL, fz, if_true, ev_wipe0, ev_wipe1, List.set_cons_succ, List.set_cons_zero, l1, eL]
/-! all stands -/
def initR (P M f : Nat) (x : Int) (own j : Nat) : List Int := (List.range P).map (fun q => cv f q j) ++ [x] ++ (List.range M).map (fun k => if k = own then (1 : Int) else 0)
section
variable {P M f own j : Nat} {x : Int}
theorem init_len : (initR P M f x own j).length = P + 1 + M := by unfold initR; simp; omega
theorem init_q {q : Nat} (h : q < P) : gI (initR P M f x own j) q = cv f q j := by
  unfold initR gI
  rw [List.getD_eq_getElem?_getD, List.append_assoc, List.getElem?_append_left (by simpa using h)]
  simp [h]
theorem init_P : gI (initR P M f x own j) P = x := by
  unfold initR gI
  rw [List.getD_eq_getElem?_getD, List.append_assoc, List.getElem?_append_right (by simp)]
  simp
theorem init_w {k : Nat} (h : k < M) : gI (initR P M f x own j) (P + 1 + k) = if k = own then 1 else 0 := by
  unfold initR gI
  rw [List.getD_eq_getElem?_getD, List.getElem?_append_right (by simp)]
  simp [h]
theorem RI_init {ts : List TF} {i j : Nat} {t : TF} (ht : ts[i]? = some t) (hT : T1 P t) (hj : j < t.2.length) : RI P ts 0 24300 (initR P (MN ts) t.1 (gI t.2 j) (offN ts i + j) j) := by
  have hi : i < ts.length := (List.getElem?_eq_some_iff.mp ht).1
  obtain ⟨t1, t2, t3, t4⟩ := hT
  have hj' : j < nN ts i := by rw [nN_at ht]; exact hj
  have hw : ∀ a b, a < ts.length → b < nN ts a → wR P ts (initR P (MN ts) t.1 (gI t.2 j) (offN ts i + j) j) a b = if offN ts a + b = offN ts i + j then 1 else 0 := fun a b ha hb => init_w (offN_lt ha hb)
  refine ⟨init_len, fun q hq => ?_, ?_, ⟨j, j + t.1, 1, .inl rfl, Nat.zero_le _, fun q hq => ?_⟩, fun k hk => ?_, fun k hk0 hk => ?_⟩
  · rw [ds_congr hw, ds_delta hi hj', init_q hq, fN_at ht]
  · rw [ds_congr hw, ds_delta hi hj', init_P, cN_at ht]
  · rw [init_q hq]; rfl
  · rw [init_len] at hk
    have hx := t4 _ (gI_mem hj)
    by_cases h1 : k < P
    · rw [init_q h1]; unfold cv; split <;> omega
    · by_cases h2 : k = P
      · subst h2; rw [init_P]; omega
      · obtain ⟨k, rfl⟩ : ∃ m, k = P + 1 + m := ⟨k - P - 1, by omega⟩
        rw [init_w (by omega)]; split <;> omega
  · rw [init_len] at hk
    obtain ⟨k, rfl⟩ : ∃ m, k = P + 1 + m := ⟨k - P - 1, by omega⟩
    rw [init_w (by omega)]
    show -(1 : Int) ≤ _ ∧ _ ≤ (1 : Int)
    split <;> omega
end
theorem MN_sum {ts : List TF} : (ts.map fun t => (t.2.length : Int)).sum = (MN ts : Int) := by
  have h : ∀ n, (offN ts n : Int) = sumN n fun a => (nN ts a : Int) := by
    intro n
    induction n with
    | zero => rfl
    | succ n ih => rw [sumNs, ← ih]; show ((offN ts n + nN ts n : Nat) : Int) = _; omega
  unfold MN
  rw [h, sum_gI (n := ts.length) (by simp)]
  refine sumN_congr fun a ha => ?_
  unfold gI nN
  simp [List.getD, ha]
def rowsD (rs : List (List Int)) : List D := rs.map fun r => .list (iL r)
end X
namespace X
open PySem PySem.Spec L2 DL DM
abbrev duoT (a b : Nat) : D → Rho → Option Rho := qTup (qCons (qN a) (qCons (qN b) qNil))
theorem MN_le {P : Nat} {ts : List TF} (hT : TOk P ts) : MN ts ≤ 72 := by
  obtain ⟨hP, h3, hTs⟩ := hT
  have hn : ∀ i, i < ts.length → nN ts i ≤ 24 := fun i hi => by
    have ht : ts[i]? = some ts[i] := List.getElem?_eq_getElem hi
    rw [nN_at ht]
    have := hTs _ (List.mem_of_getElem? ht)
    omega
  have : ∀ n, n ≤ ts.length → offN ts n ≤ 24 * n := by
    intro n
    induction n with
    | zero => intro _; exact Nat.le_refl _
    | succ n ih =>
      intro h
      have := ih (by omega)
      have := hn n (by omega)
      show offN ts n + nN ts n ≤ _
      omega
  have := this ts.length (Nat.le_refl _)
  unfold MN; omega
section
variable {P : Nat} {ts : List TF}
/-- the stands up to stand j of frame i are among the rows -/
def InS (P : Nat) (ts : List TF) (i j : Nat) (rs : List (List Int)) : Prop := (∀ r ∈ rs, RI P ts 0 24300 r) ∧ ∀ a b t, ts[a]? = some t → b < t.2.length → (a < i ∨ (a = i ∧ b < j)) → initR P (MN ts) t.1 (gI t.2 b) (offN ts a + b) b ∈ rs
theorem F_all_stands_eq (hT : TOk P ts) : ∃ rs, F_all_stands [.int (P : Int), tsD ts] = some (.list (rowsD rs)) ∧ rs.length = MN ts ∧ InS P ts ts.length 0 rs := by
  have hM := MN_le hT
  obtain ⟨hP, h3, hTs⟩ := hT
  have key : ∃ rs, Runs S_all_stands ([PyData.int (P : Int), tsD ts].map .im ++ List.replicate 10 .un) (0, 0) (IsRt (.list (rowsD rs))) ∧ rs.length = MN ts ∧ InS P ts ts.length 0 rs := by
    unfold S_all_stands
    have ft : few (ts.map tfD).length = true := few_of (by rw [List.length_map]; omega)
    have l1 := lcS_map (tg := duoT 4 5) (e := sCB lenD (sCons (sV 5) sNil)) (ρ0 := [.im (.int (P : Int)), .im (tsD ts), .un, .un, .un, .un, .un, .un, .un, .un, .un, .un]) (xs := ts.map tfD) (c := (0, 0)) (fun d => match d with | .tuple [_, .tuple cs] => .int (cs.length : Int) | d => d) (fun x hx => by
      obtain ⟨t, _, rfl⟩ := List.mem_map.mp hx
      exact ⟨_, rfl, rfl⟩)
    have e1 : (ts.map tfD).map (fun d => match d with | .tuple [_, .tuple cs] => PyData.int (cs.length : Int) | d => d) = iL (ts.map fun t => (t.2.length : Int)) := by
      unfold iL
      rw [List.map_map, List.map_map]
      refine List.map_congr_left fun t _ => ?_
      show PyData.int ((iL t.2).length : Int) = _
      rw [iL_len]; rfl
    rw [e1] at l1
    have e2 : sumA [.list (iL (ts.map fun t => (t.2.length : Int)))] = some (.int (MN ts : Int)) := by
      show (intsD (iL _)).map _ = _
      rw [show intsD (iL (ts.map fun t => (t.2.length : Int))) = some (ts.map fun t => (t.2.length : Int)) from intsD_map _]
      show some (PyData.int (ts.map fun t => (t.2.length : Int)).sum) = _
      rw [MN_sum]
    have hstart : ∀ {g : SS} {Q : Fl × Rho × Dr → Prop}, Runs g [.im (.int (P : Int)), .im (tsD ts), .im (.int (MN ts : Int)), .un, .un, .un, .un, .un, .un, .un, .un, .un] (0, 0) Q → Runs (sSeq (sAsg (sCB sumA (sCons (sOfL (sLc (sItT (sV 1)) (duoT 4 5) sYes (sCB lenD (sCons (sV 5) sNil)) [4, 5])) sNil)) (qN 2)) g) ([PyData.int (P : Int), tsD ts].map .im ++ List.replicate 10 .un) (0, 0) Q := fun {g Q} h => by
      refine .seq ?_ h
      simp only [tsD] at l1
      simp only [ev_sAsg, ev_sCB, ev_sCons, ev_sNil, ev_sOfL, ev_sLc, ev_sItT, ev_sV, List.map_cons, List.map_nil, List.cons_append, List.nil_append, List.replicate_succ, List.replicate_zero, List.getElem?_cons_succ, List.getElem?_cons_zero, Option.bind_some, tsD, ft, if_true, ev_wipe0, ev_wipe1, List.set_cons_succ, List.set_cons_zero, l1, e2, ev_qN]
    have f0 : few 0 = true := by decide
    have body : ∃ ρ' c', sFor (sItT (sV 1)) (duoT 4 5) (sThen [4, 5] (sFor (sEnum (sV 5)) (duoT 6 7)
         (sThen [6, 7, 8, 9] (sSeq (sAsg (sFl 3 (sCB lenD (sCons (sV 3) sNil))) (qN 8))
         (sSeq (sAsg (sOfL (sLc (sR1 (sCons (sV 0) sNil)) (qN 10) sYes (sCB intD (sCons (sChain leD ltD (sV 6) (sV 10) (sOp addD (sV 6) (sV 4))) sNil)) [10])) (qN 9))
         (sApp 3 (sOp addD (sOp addD (sV 9) (sLst (sCons (sV 7) sNil))) (sOfL (sLc (sR1 (sCons (sV 2) sNil)) (qN 11) sYes (sCB intD (sCons (sOp eqD (sV 11) (sV 8)) sNil)) [11])))))))))
         [.im (.int (P : Int)), .im (tsD ts), .im (.int (MN ts : Int)), .ol [], .un, .un, .un, .un, .un, .un, .un, .un] (0, 0) = some (.nx, ρ', c') ∧ (c' = (0, 0) ∧ ∃ rs, ρ' = [.im (.int (P : Int)), .im (tsD ts), .im (.int (MN ts : Int)), .ol (rowsD rs), .un, .un, .un, .un, .un, .un, .un, .un] ∧ rs.length = offN ts (ts.map tfD).length ∧ InS P ts (ts.map tfD).length 0 rs) := by
      refine for_inv (c1 := (0, 0)) (xs := ts.map tfD) (fun i ρ c => c = (0, 0) ∧ ∃ rs, ρ = [.im (.int (P : Int)), .im (tsD ts), .im (.int (MN ts : Int)), .ol (rowsD rs), .un, .un, .un, .un, .un, .un, .un, .un] ∧ rs.length = offN ts i ∧ InS P ts i 0 rs) (by simp [tsD]) ⟨rfl, [], rfl, rfl, (fun r h => by cases h), (fun a b t _ _ h => absurd h (by omega))⟩ fun i x ρ c hx hI => ?_
      obtain ⟨rfl, rs, rfl, hl, hr⟩ := hI
      rw [List.getElem?_map] at hx
      obtain ⟨t, ht, rfl⟩ := Option.map_eq_some_iff.mp hx
      have hi : i < ts.length := (List.getElem?_eq_some_iff.mp ht).1
      have hT1 := hTs t (List.mem_of_getElem? ht)
      have inner := for_inv (c := (0, 0)) (c1 := (0, 0)) (fi := sEnum (sV 5)) (tg := duoT 6 7) (body := (sThen [6, 7, 8, 9] (sSeq (sAsg (sFl 3 (sCB lenD (sCons (sV 3) sNil))) (qN 8))
         (sSeq (sAsg (sOfL (sLc (sR1 (sCons (sV 0) sNil)) (qN 10) sYes (sCB intD (sCons (sChain leD ltD (sV 6) (sV 10) (sOp addD (sV 6) (sV 4))) sNil)) [10])) (qN 9))
         (sApp 3 (sOp addD (sOp addD (sV 9) (sLst (sCons (sV 7) sNil))) (sOfL (sLc (sR1 (sCons (sV 2) sNil)) (qN 11) sYes (sCB intD (sCons (sOp eqD (sV 11) (sV 8)) sNil)) [11]))))))))
        (ρ := [.im (.int (P : Int)), .im (tsD ts), .im (.int (MN ts : Int)), .ol (rowsD rs), .im (.int (t.1 : Int)), .im (.tuple (iL t.2)), .un, .un, .un, .un, .un, .un]) (xs := enumL (iL t.2))
        (fun j ρ c => c = (0, 0) ∧ ∃ rs, ρ = [.im (.int (P : Int)), .im (tsD ts), .im (.int (MN ts : Int)), .ol (rowsD rs), .im (.int (t.1 : Int)), .im (.tuple (iL t.2)), .un, .un, .un, .un, .un, .un] ∧ rs.length = offN ts i + j ∧ InS P ts i j rs) (by simp) ⟨rfl, rs, rfl, hl, hr⟩ fun j y ρ c hy hI => by
          obtain ⟨rfl, rs, rfl, hl, hr⟩ := hI
          obtain ⟨v, hv, rfl⟩ := enum_at hy
          have hj : j < t.2.length := by
            have := (List.getElem?_eq_some_iff.mp hv).1
            rwa [iL_len] at this
          have ev : v = .int (gI t.2 j) := by
            rw [iL_get, List.getElem?_eq_getElem hj] at hv
            unfold gI
            simp [List.getD, hj] at hv ⊢
            exact hv.symm
          subst ev
          have hj' : j < nN ts i := by rw [nN_at ht]; exact hj
          have hoff := offN_lt hi hj'
          refine ⟨_, [.im (.int (P : Int)), .im (tsD ts), .im (.int (MN ts : Int)), .ol (rowsD (rs ++ [initR P (MN ts) t.1 (gI t.2 j) (offN ts i + j) j])), .im (.int (t.1 : Int)), .im (.tuple (iL t.2)), .un, .un, .un, .un, .un, .un], (0, 0), rfl, ?_, rfl, rs ++ [initR P (MN ts) t.1 (gI t.2 j) (offN ts i + j) j], rfl, ?_, ?_⟩
          · refine then_run (ρ1 := [.im (.int (P : Int)), .im (tsD ts), .im (.int (MN ts : Int)), .ol (rowsD (rs ++ [initR P (MN ts) t.1 (gI t.2 j) (offN ts i + j) j])), .im (.int (t.1 : Int)), .im (.tuple (iL t.2)), .im (.int (j : Int)), .im (.int (gI t.2 j)), .im (.int ((offN ts i + j : Nat) : Int)), .im (.list (iL ((List.range P).map fun q => cv t.1 q j))), .un, .un]) ?_ rfl
            have hrl : (rowsD rs).length = offN ts i + j := by unfold rowsD; rw [List.length_map, hl]
            refine seq_run (ρ1 := [.im (.int (P : Int)), .im (tsD ts), .im (.int (MN ts : Int)), .ol (rowsD rs), .im (.int (t.1 : Int)), .im (.tuple (iL t.2)), .im (.int (j : Int)), .im (.int (gI t.2 j)), .im (.int ((offN ts i + j : Nat) : Int)), .un, .un, .un]) (c1 := (0, 0)) ?_ ?_
            · simp [hrl, flatD]
            have oP : okR (P : Int) = true := okR_of (by omega) (by omega)
            have fP : few P = true := few_of (by omega)
            have oM : okR (MN ts : Int) = true := okR_of (by omega) (by omega)
            have fM : few (MN ts) = true := few_of (by omega)
            have l2 := lcS_map (tg := qN 10) (e := sCB intD (sCons (sChain leD ltD (sV 6) (sV 10) (sOp addD (sV 6) (sV 4))) sNil)) (ρ0 := [.im (.int (P : Int)), .im (tsD ts), .im (.int (MN ts : Int)), .ol (rowsD rs), .im (.int (t.1 : Int)), .im (.tuple (iL t.2)), .im (.int (j : Int)), .im (.int (gI t.2 j)), .im (.int ((offN ts i + j : Nat) : Int)), .un, .un, .un]) (xs := rngL 0 P) (c := (0, 0)) (fun d => match d with | .int q => .int (cv t.1 q.toNat j) | d => d) (fun x hx => by
              obtain ⟨q, hq⟩ := List.getElem?_of_mem hx
              obtain ⟨h1, rfl⟩ := rngL_lt hq
              refine ⟨_, rfl, ?_⟩
              have et : ((0 : Int) + q).toNat = q := by omega
              show _ = some (PyData.int (cv t.1 ((0 : Int) + q).toNat j), _)
              rw [et]
              by_cases g1 : (j : Int) ≤ 0 + q
              · by_cases g2 : (0 : Int) + q < j + t.1
                · have : cv t.1 q j = 1 := by unfold cv; rw [if_pos (by omega)]
                  rw [this]
                  simp only [ev_sCB, ev_sCons, ev_sNil, ev_sChain, ev_sOp, ev_sV, ev_qN, List.set_cons_succ, List.set_cons_zero, List.getElem?_cons_succ, List.getElem?_cons_zero, Option.bind_some, ev_cmpII, decide_eq_true g1, decide_eq_true g2, ev_addII, ev_int1B, if_true]
                · have : cv t.1 q j = 0 := by unfold cv; rw [if_neg (by omega)]
                  rw [this]
                  simp only [ev_sCB, ev_sCons, ev_sNil, ev_sChain, ev_sOp, ev_sV, ev_qN, List.set_cons_succ, List.set_cons_zero, List.getElem?_cons_succ, List.getElem?_cons_zero, Option.bind_some, ev_cmpII, decide_eq_true g1, decide_eq_false g2, ev_addII, ev_int1B, Bool.false_eq_true, if_false]
              · have : cv t.1 q j = 0 := by unfold cv; rw [if_neg (by omega)]
                rw [this]
                simp only [ev_sCB, ev_sCons, ev_sNil, ev_sChain, ev_sOp, ev_sV, ev_qN, List.set_cons_succ, List.set_cons_zero, List.getElem?_cons_succ, List.getElem?_cons_zero, Option.bind_some, ev_cmpII, decide_eq_false g1, ev_addII, ev_int1B, Bool.false_eq_true, if_false])
            have e3 : (rngL 0 P).map (fun d => match d with | .int q => PyData.int (cv t.1 q.toNat j) | d => d) = iL ((List.range P).map fun q => cv t.1 q j) := by
              refine List.ext_getElem? fun k => ?_
              rw [List.getElem?_map, iL_get, List.getElem?_map]
              by_cases hk : k < P
              · rw [List.getElem?_range hk]
                have : (rngL 0 P)[k]? = some (.int (0 + (k : Int))) := by
                  have h1 : k < (rngL 0 P).length := by rw [rngL_len]; exact hk
                  have h2 := List.getElem?_eq_getElem h1
                  rw [h2, (rngL_lt h2).2]
                rw [this]
                show some (PyData.int (cv t.1 ((0 : Int) + k).toNat j)) = some (PyData.int (cv t.1 k j))
                rw [show ((0 : Int) + k).toNat = k by omega]
              · rw [List.getElem?_eq_none (by rw [rngL_len]; omega), List.getElem?_eq_none (by simpa using hk)]; rfl
            rw [e3] at l2
            refine seq_run (ρ1 := [.im (.int (P : Int)), .im (tsD ts), .im (.int (MN ts : Int)), .ol (rowsD rs), .im (.int (t.1 : Int)), .im (.tuple (iL t.2)), .im (.int (j : Int)), .im (.int (gI t.2 j)), .im (.int ((offN ts i + j : Nat) : Int)), .im (.list (iL ((List.range P).map fun q => cv t.1 q j))), .un, .un]) (c1 := (0, 0)) ?_ ?_
            · simp only [ev_sAsg, ev_sOfL, ev_sLc, ev_sR1, ev_sCons, ev_sNil, ev_sV, List.getElem?_cons_succ, List.getElem?_cons_zero, Option.bind_some, oP, if_true, Int.toNat_natCast, rngL_len, fP, ev_wipe0, ev_wipe1, List.set_cons_succ, List.set_cons_zero, l2, ev_qN]
            have l3 := lcS_map (tg := qN 11) (e := sCB intD (sCons (sOp eqD (sV 11) (sV 8)) sNil)) (ρ0 := [.im (.int (P : Int)), .im (tsD ts), .im (.int (MN ts : Int)), .ol (rowsD rs), .im (.int (t.1 : Int)), .im (.tuple (iL t.2)), .im (.int (j : Int)), .im (.int (gI t.2 j)), .im (.int ((offN ts i + j : Nat) : Int)), .im (.list (iL ((List.range P).map fun q => cv t.1 q j))), .un, .un]) (xs := rngL 0 (MN ts)) (c := (0, 0)) (fun d => match d with | .int q => .int (if q.toNat = offN ts i + j then 1 else 0) | d => d) (fun x hx => by
              obtain ⟨q, hq⟩ := List.getElem?_of_mem hx
              obtain ⟨h1, rfl⟩ := rngL_lt hq
              refine ⟨_, rfl, ?_⟩
              have et : ((0 : Int) + q).toNat = q := by omega
              show _ = some (PyData.int (if ((0 : Int) + q).toNat = offN ts i + j then 1 else 0), _)
              rw [et]
              have : eqD (.int ((0 : Int) + q)) (.int ((offN ts i + j : Nat) : Int)) = some (.bool (decide ((0 : Int) + q = (offN ts i + j : Nat)))) := eqD_int
              simp only [ev_sCB, ev_sCons, ev_sNil, ev_sOp, ev_sV, ev_qN, List.set_cons_succ, List.set_cons_zero, List.getElem?_cons_succ, List.getElem?_cons_zero, Option.bind_some, this, ev_int1B]
              by_cases g : q = offN ts i + j
              · rw [if_pos g, decide_eq_true (by omega)]; rfl
              · rw [if_neg g, decide_eq_false (by omega)]; rfl)
            have e4 : (rngL 0 (MN ts)).map (fun d => match d with | .int q => PyData.int (if q.toNat = offN ts i + j then 1 else 0) | d => d) = iL ((List.range (MN ts)).map fun k => if k = offN ts i + j then (1 : Int) else 0) := by
              refine List.ext_getElem? fun k => ?_
              rw [List.getElem?_map, iL_get, List.getElem?_map]
              by_cases hk : k < MN ts
              · rw [List.getElem?_range hk]
                have : (rngL 0 (MN ts))[k]? = some (.int (0 + (k : Int))) := by
                  have h1 : k < (rngL 0 (MN ts)).length := by rw [rngL_len]; exact hk
                  have h2 := List.getElem?_eq_getElem h1
                  rw [h2, (rngL_lt h2).2]
                rw [this]
                show some (PyData.int (if ((0 : Int) + k).toNat = offN ts i + j then 1 else 0)) = some (PyData.int (if k = offN ts i + j then 1 else 0))
                rw [show ((0 : Int) + k).toNat = k by omega]
              · rw [List.getElem?_eq_none (by rw [rngL_len]; omega), List.getElem?_eq_none (by simpa using hk)]; rfl
            rw [e4] at l3
            have e5 : rowsD (rs ++ [initR P (MN ts) t.1 (gI t.2 j) (offN ts i + j) j]) = rowsD rs ++ [.list (iL ((List.range P).map fun q => cv t.1 q j) ++ [.int (gI t.2 j)] ++ iL ((List.range (MN ts)).map fun k => if k = offN ts i + j then (1 : Int) else 0))] := by
              unfold rowsD
              rw [List.map_append]
              show _ ++ [PyData.list (iL (initR P (MN ts) t.1 (gI t.2 j) (offN ts i + j) j))] = _
              unfold initR
              rw [iL_app, iL_app]; rfl
            rw [e5]
            have fr : few (rowsD rs).length = true := few_of (by rw [hrl]; omega)
            have f1 : few 1 = true := by decide
            have f2 : few (P + 1) = true := few_of (by omega)
            have f3 : few (P + 1 + MN ts) = true := few_of (by omega)
            simp only [ev_sApp, ev_sOp, ev_sOfL, ev_sLc, ev_sR1, ev_sLst, ev_sCons, ev_sNil, ev_sV, List.getElem?_cons_succ, List.getElem?_cons_zero, Option.bind_some, oM, if_true, Int.toNat_natCast, rngL_len, fM, ev_wipe0, ev_wipe1, List.set_cons_succ, List.set_cons_zero, l3, List.length_cons, List.length_nil, Nat.zero_add, f1, ev_addLL, iL_len, List.length_map, List.length_range, List.length_append, f2, f3, fr]
          · rw [List.length_append, hl]; rfl
          · refine ⟨fun r hr' => ?_, fun a b u hu hb hab => ?_⟩
            · rcases List.mem_append.mp hr' with w | w
              · exact hr.1 r w
              · rw [List.mem_singleton.mp w]; exact RI_init ht hT1 hj
            · by_cases e : a = i ∧ b = j
              · obtain ⟨rfl, rfl⟩ := e
                rw [ht] at hu
                cases hu
                exact List.mem_append_right _ List.mem_cons_self
              · exact List.mem_append_left _ (hr.2 a b u hu hb (by omega))
      obtain ⟨ρ', c', e, rfl, rs', rfl, hl', hr'⟩ := inner
      rw [enum_len, iL_len, ← nN_at ht] at hl'
      rw [enum_len, iL_len] at hr'
      refine ⟨_, _, _, rfl, then_run e rfl, rfl, rs', rfl, hl', hr'.1, fun a b u hu hb hab => hr'.2 a b u hu hb ?_⟩
      by_cases q : a = i
      · subst q
        rw [ht] at hu
        cases hu
        exact .inr ⟨rfl, hb⟩
      · omega
    obtain ⟨ρ', c', e, rfl, rs, rfl, hl, hr⟩ := body
    rw [List.length_map] at hl hr
    refine ⟨rs, hstart (.seq (ρ1 := [.im (.int (P : Int)), .im (tsD ts), .im (.int (MN ts : Int)), .ol [], .un, .un, .un, .un, .un, .un, .un, .un]) (c1 := (0, 0)) (by simp [f0]) (.seq e (.frz rfl (.ret (d := .list (rowsD rs)) (c1 := (0, 0)) (by simp) rfl)))), hl, hr⟩
  obtain ⟨rs, h1, h2, h3⟩ := key
  exact ⟨rs, bodyP_of rfl h1, h2, h3⟩
end
end X
namespace X
open PySem PySem.Spec L2 DL DM
theorem atI_end {α : Type} {xs : List α} {k : Nat} (h : 1 ≤ k) (h2 : k ≤ xs.length) : atI xs (-(k : Int)) = xs[xs.length - k]? := by
  unfold atI ixN
  rw [if_neg (by omega), if_pos (by omega)]
  show xs[_]? = _
  congr 1
  omega
theorem bodyP_end {m n : Nat} {f : SS} {ds : List D} {ρ : Rho} {c : Dr} (hm : ds.length = m) (h : f (ds.map .im ++ List.replicate n .un) (0, 0) = some (.nx, ρ, c)) : bodyP m n f ds = some .none := by
  unfold bodyP
  rw [if_pos hm, h]; rfl
/-- long enough -/
def Lg (P : Nat) (ts : List TF) : Prop := ts.length ≤ 1 ∨ (fN ts (ts.length - 2) : Int) + fN ts (ts.length - 1) - (Int.gcd (fN ts (ts.length - 2)) (fN ts (ts.length - 1)) : Nat) ≤ P
section
variable {P : Nat} {ts : List TF}
theorem F_need_long_eq (hT : TOk P ts) (hL : Lg P ts) : F_need_long [.int (P : Int), tsD ts] = some .none := by
  obtain ⟨hP, h3, hTs⟩ := hT
  unfold F_need_long
  by_cases h1 : ts.length ≤ 1
  · refine bodyP_end (ρ := [.im (.int (P : Int)), .im (tsD ts), .un, .un]) (c := (0, 0)) rfl ?_
    unfold S_need_long
    refine DL.ifF (c1 := (0, 0)) ?_ rfl
    have : ¬ (1 : Int) < ts.length := by omega
    simp [tsD, this]
  · have hL : (fN ts (ts.length - 2) : Int) + fN ts (ts.length - 1) - (Int.gcd (fN ts (ts.length - 2)) (fN ts (ts.length - 1)) : Nat) ≤ P := by
      rcases hL with q | q
      · exact absurd q h1
      · exact q
    have g2 : ts[ts.length - 2]? = some ts[ts.length - 2] := List.getElem?_eq_getElem (by omega)
    have g1 : ts[ts.length - 1]? = some ts[ts.length - 1] := List.getElem?_eq_getElem (by omega)
    rw [fN_at g2, fN_at g1] at hL
    have b2 := hTs _ (List.mem_of_getElem? g2)
    have b1 := hTs _ (List.mem_of_getElem? g1)
    generalize ts[ts.length - 2] = u at *
    generalize ts[ts.length - 1] = v at *
    have a2 : atI (ts.map tfD) (-2) = some (tfD u) := by
      have := atI_end (xs := ts.map tfD) (k := 2) (by decide) (by rw [List.length_map]; omega)
      rw [List.length_map, List.getElem?_map, g2] at this
      exact this
    have a1 : atI (ts.map tfD) (-1) = some (tfD v) := by
      have := atI_end (xs := ts.map tfD) (k := 1) (by decide) (by rw [List.length_map]; omega)
      rw [List.length_map, List.getElem?_map, g1] at this
      exact this
    have eg : F_common [.int (u.1 : Int), .int (v.1 : Int)] = some (.int (Int.gcd u.1 v.1 : Nat)) := F_common_eq (by omega)
    refine bodyP_end (ρ := [.im (.int (P : Int)), .im (tsD ts), .un, .un]) (c := (0, 0)) rfl ?_
    unfold S_need_long
    have h2 : (1 : Int) < ts.length := by omega
    refine DL.ifT (c1 := (0, 0)) (by simp [tsD, h2]) (then_run (ρ1 := [.im (.int (P : Int)), .im (tsD ts), .im (.int (u.1 : Int)), .im (.int (v.1 : Int))]) ?_ rfl)
    have z2 : atI [PyData.int (u.1 : Int), .tuple (iL u.2)] 0 = some (.int (u.1 : Int)) := rfl
    have z1 : atI [PyData.int (v.1 : Int), .tuple (iL v.2)] 0 = some (.int (v.1 : Int)) := rfl
    refine seq_run (ρ1 := [.im (.int (P : Int)), .im (tsD ts), .im (.int (u.1 : Int)), .im (.int (v.1 : Int))]) (c1 := (0, 0)) ?_ ?_
    · simp only [List.map_cons, List.map_nil, List.cons_append, List.nil_append, List.replicate_succ, List.replicate_zero, ev_sMany, ev_sAvP, ev_sAvNil, ev_sOp, ev_sV, ev_sUn, ev_sC, List.getElem?_cons_succ, List.getElem?_cons_zero, Option.bind_some, ev_negI, tsD, ev_ixT, a2, a1, tfD, z2, z1, List.length_cons, List.length_nil, if_true, ev_setAv, ev_setAv0, ev_slP, List.set_cons_succ, List.set_cons_zero]
    · have hn : ¬ (P : Int) < (u.1 : Int) + v.1 - (Int.gcd u.1 v.1 : Nat) := by omega
      refine DL.ifF (c1 := (0, 0)) ?_ rfl
      simp only [ev_sB, ev_sOp, ev_sV, ev_sCall, ev_sCons, ev_sNil, List.getElem?_cons_succ, List.getElem?_cons_zero, Option.bind_some, eg, ev_addII, ev_subII, ev_cmpII, decide_eq_false hn]
/-! rows as things -/
def intD' : D → Int
  | .int i => i
  | _ => 0
def rowI : D → List Int
  | .list xs => xs.map intD'
  | _ => []
theorem rowI_eq {r : List Int} : rowI (.list (iL r)) = r := by
  show (iL r).map intD' = r
  unfold iL
  rw [List.map_map]
  show r.map id = r
  rw [List.map_id]
theorem rows_filter {p : List Int → Bool} : ∀ {rs : List (List Int)}, (rowsD rs).filterMap (fun d => if p (rowI d) = true then some d else none) = rowsD (rs.filter p)
  | [] => rfl
  | r :: rs => by
    show (PyData.list (iL r) :: rowsD rs).filterMap _ = _
    rw [List.filterMap_cons, rowI_eq, List.filter_cons, rows_filter (rs := rs)]
    cases p r <;> rfl
theorem rowsD_len {rs : List (List Int)} : (rowsD rs).length = rs.length := by unfold rowsD; rw [List.length_map]
theorem rows_pln {rs : List (List Int)} : Pln 2 (.list (rowsD rs)) := .list fun d hd => by
  obtain ⟨r, _, rfl⟩ := List.mem_map.mp hd
  exact .list pln_iL
theorem rows_eq {rs : List (List Int)} : eqD (.list (rowsD rs)) (.list []) = some (.bool (decide (rs = []))) := eqD_b rows_pln (Pln.list fun d hd => by cases hd) (by decide) (by
  rw [decide_eq_true_eq]
  constructor
  · rintro rfl; rfl
  · intro h
    have h : rowsD rs = [] := by injection h
    exact List.map_eq_nil_iff.mp h)
theorem rows_ne {rs : List (List Int)} : neD (.list (rowsD rs)) (.list []) = some (.bool (!decide (rs = []))) := neD_b rows_pln (Pln.list fun d hd => by cases hd) (by decide) (by
  rw [decide_eq_true_eq]
  constructor
  · rintro rfl; rfl
  · intro h
    have h : rowsD rs = [] := by injection h
    exact List.map_eq_nil_iff.mp h)
/-- a row at a place: 0 or not -/
def nz (p : Nat) (r : List Int) : Bool := !decide (gI r p = 0)
def zr (p : Nat) (r : List Int) : Bool := decide (gI r p = 0)
theorem lc_nz {ρ0 : Rho} {rs : List (List Int)} {p k : Nat} {c : Dr} (hk : ρ0.length = 12) (h : ∀ r ∈ rs, p < r.length) (hv : (ρ0.set 11 (.im (.int 0)))[k]? = some (.im (.int (p : Int)))) (hk2 : k < 11) :
    lcS (qN 11) (sB (sOp neD (sOp ixD (sV 11) (sV k)) (sC (.int 0)))) (sV 11) ρ0 (rowsD rs) c = some (rowsD (rs.filter (nz p)), c) := by
  rw [← rows_filter]
  refine lcS_run _ fun x hx => ?_
  obtain ⟨r, hr, rfl⟩ := List.mem_map.mp hx
  refine ⟨_, rfl, ?_⟩
  have h11 : (ρ0.set 11 (.im (.list (iL r))))[11]? = some (.im (.list (iL r))) := List.getElem?_set_self (by omega)
  have hkk : (ρ0.set 11 (.im (.list (iL r))))[k]? = some (.im (.int (p : Int))) := by
    rw [List.getElem?_set_ne (by omega)] at hv ⊢
    exact hv
  have e1 := atI_iL (h r hr)
  have e2 : neD (.int (gI r p)) (.int 0) = some (.bool (nz p r)) := neD_int
  rw [rowI_eq]
  have et : sB (sOp neD (sOp ixD (sV 11) (sV k)) (sC (.int 0))) (ρ0.set 11 (.im (.list (iL r)))) c = some (nz p r, c) := by
    simp only [ev_sB, ev_sOp, ev_sV, ev_sC, h11, hkk, Option.bind_some, ev_ixL, e1, e2]
  cases hz : nz p r with
  | true =>
    rw [hz] at et
    exact ⟨et, by simp only [ev_sV, h11]⟩
  | false =>
    rw [hz] at et
    exact et
theorem lc_zr {ρ0 : Rho} {rs : List (List Int)} {p k : Nat} {c : Dr} (hk : ρ0.length = 12) (h : ∀ r ∈ rs, p < r.length) (hv : (ρ0.set 11 (.im (.int 0)))[k]? = some (.im (.int (p : Int)))) (hk2 : k < 11) :
    lcS (qN 11) (sB (sOp eqD (sOp ixD (sV 11) (sV k)) (sC (.int 0)))) (sV 11) ρ0 (rowsD rs) c = some (rowsD (rs.filter (zr p)), c) := by
  rw [← rows_filter]
  refine lcS_run _ fun x hx => ?_
  obtain ⟨r, hr, rfl⟩ := List.mem_map.mp hx
  refine ⟨_, rfl, ?_⟩
  have h11 : (ρ0.set 11 (.im (.list (iL r))))[11]? = some (.im (.list (iL r))) := List.getElem?_set_self (by omega)
  have hkk : (ρ0.set 11 (.im (.list (iL r))))[k]? = some (.im (.int (p : Int))) := by
    rw [List.getElem?_set_ne (by omega)] at hv ⊢
    exact hv
  have e1 := atI_iL (h r hr)
  have e2 : eqD (.int (gI r p)) (.int 0) = some (.bool (zr p r)) := eqD_int
  rw [rowI_eq]
  have et : sB (sOp eqD (sOp ixD (sV 11) (sV k)) (sC (.int 0))) (ρ0.set 11 (.im (.list (iL r)))) c = some (zr p r, c) := by
    simp only [ev_sB, ev_sOp, ev_sV, ev_sC, h11, hkk, Option.bind_some, ev_ixL, e1, e2]
  cases hz : zr p r with
  | true =>
    rw [hz] at et
    exact ⟨et, by simp only [ev_sV, h11]⟩
  | false =>
    rw [hz] at et
    exact et
theorem filt_len {α : Type} {p q : α → Bool} (h : ∀ x, q x = !p x) : ∀ {l : List α}, (l.filter p).length + (l.filter q).length = l.length
  | [] => rfl
  | x :: l => by
    have ih := filt_len h (l := l)
    rw [List.filter_cons, List.filter_cons, h x]
    cases p x with
    | true => simp; omega
    | false => simp; omega
end
end X
namespace X
open PySem PySem.Spec L2 DL DM
theorem cut_mid {α : Type} {xs : List α} {i j : Nat} (h : i ≤ j) (h2 : j ≤ xs.length) : cutL xs (some (i : Int)) (some (j : Int)) = (xs.drop i).take (j - i) := by
  unfold cutL
  rw [HT.sIx_nat, HT.sIx_nat, Nat.min_eq_left h2, Nat.min_eq_left (show i ≤ xs.length by omega)]
theorem cut_1 {α : Type} {xs : List α} : cutL xs (some 1) none = xs.drop 1 := by
  unfold cutL HT.sIx
  cases xs with
  | nil => rfl
  | cons x xs =>
    simp
def bp (p : Nat) : Int := 24300 * ((2 ^ p : Nat) : Int)
theorem bp_up {p : Nat} : bp (p + 1) = 2 * bp p := by unfold bp; rw [Nat.pow_succ]; omega
theorem bp_le {p : Nat} (h : p ≤ 24) : bp p ≤ 407686348800 ∧ 0 ≤ bp p := by
  have : 2 ^ p ≤ 2 ^ 24 := Nat.pow_le_pow_right (by decide) h
  unfold bp
  generalize 2 ^ p = n at this ⊢
  omega
theorem gcd_lt {P p : Nat} {ts : List TF} {B : Int} {r : List Int} (h : RI P ts p B r) (hp : p ≤ 24) : gcdN r r.length < 1073741824 := by
  have h1 := h.gcd
  have : 2 ^ p ≤ 2 ^ 24 := Nat.pow_le_pow_right (by decide) hp
  generalize 2 ^ p = n at this h1
  omega
theorem bp_nn {p : Nat} : 0 ≤ bp p := by
  unfold bp
  generalize 2 ^ p = n
  omega
/-- the parts of a row: the weights of each frame -/
def seg (P : Nat) (ts : List TF) (r : List Int) (k : Nat) : List Int := (r.drop (P + 1 + offN ts k)).take (nN ts k)
section
variable {P : Nat} {ts : List TF} {r : List Int}
theorem seg_len {k : Nat} (hl : r.length = P + 1 + MN ts) (hk : k < ts.length) : (seg P ts r k).length = nN ts k := by
  have h2 : offN ts k + nN ts k ≤ MN ts := offN_mono hk
  unfold seg
  rw [List.length_take, List.length_drop]; omega
theorem seg_get {k j : Nat} (hj : j < nN ts k) : gI (seg P ts r k) j = wR P ts r k j := by
  unfold seg wR gI
  rw [List.getD_eq_getElem?_getD, List.getElem?_take_of_lt hj, List.getElem?_drop, List.getD_eq_getElem?_getD]
  congr 2
  omega
/-- one place more -/
def nextL (p : Nat) (rs : List (List Int)) : List (List Int) := match rs.filter (nz p) with
  | [] => rs
  | s :: tail => rs.filter (zr p) ++ tail.map fun r => lessL (zipR r s p)
theorem next_RI {p : Nat} {rs : List (List Int)} (hp : p < P) (h : ∀ r ∈ rs, RI P ts p (bp p) r) : ∀ r ∈ nextL p rs, RI P ts (p + 1) (bp (p + 1)) r := by
  have hb : bp p ≤ bp (p + 1) := by
    have := bp_nn (p := p)
    rw [bp_up]; omega
  unfold nextL
  have hz : ∀ r ∈ rs, nz p r = false → RI P ts (p + 1) (bp (p + 1)) r := fun r hr e => (h r hr).zero hp (by unfold nz at e; simpa using e) hb
  cases q : rs.filter (nz p) with
  | nil =>
    intro r hr
    refine hz r hr ?_
    cases e : nz p r with
    | false => rfl
    | true =>
      have := List.mem_filter.mpr ⟨hr, e⟩
      rw [q] at this; cases this
  | cons s tail =>
    have hf : ∀ r ∈ s :: tail, r ∈ rs ∧ gI r p ≠ 0 := fun r hr => by
      rw [← q] at hr
      obtain ⟨h1, h2⟩ := List.mem_filter.mp hr
      refine ⟨h1, ?_⟩
      unfold nz at h2
      simpa using h2
    intro r hr
    rcases List.mem_append.mp hr with w | w
    · obtain ⟨h1, h2⟩ := List.mem_filter.mp w
      exact hz r h1 (by unfold zr at h2; unfold nz; rw [h2]; rfl)
    · obtain ⟨r0, h1, rfl⟩ := List.mem_map.mp w
      obtain ⟨a1, a2⟩ := hf r0 (List.mem_cons_of_mem _ h1)
      obtain ⟨b1, b2⟩ := hf s List.mem_cons_self
      rw [bp_up]
      exact ((h r0 a1).zip (h s b1) hp a2 b2).less
theorem next_len {p : Nat} {rs : List (List Int)} : (nextL p rs).length ≤ rs.length := by
  have e := filt_len (p := nz p) (q := zr p) (fun x => by unfold nz zr; rw [Bool.not_not]) (l := rs)
  unfold nextL
  cases q : rs.filter (nz p) with
  | nil => exact Nat.le_refl _
  | cons s tail =>
    show (rs.filter (zr p) ++ tail.map fun r => lessL (zipR r s p)).length ≤ _
    rw [List.length_append, List.length_map]
    rw [q, List.length_cons] at e
    omega
/-- a row that all rows let be -/
def SolR (P : Nat) (rs : List (List Int)) (y : Nat → Int) : Prop := ∀ r ∈ rs, sumN P (fun q => gI r q * y q) = gI r P
theorem less_mul {r : List Int} : ∃ g : Int, g ≠ 0 ∧ ∀ k, k < r.length → gI r k = gI (lessL r) k * g := by
  unfold lessL
  by_cases h : 1 < gcdN r r.length
  · rw [if_pos h]
    exact ⟨gcdN r r.length, by omega, fun k hk => by rw [gI_map hk, Int.ediv_mul_cancel (gcdN_dvd hk)]⟩
  · rw [if_neg h]
    exact ⟨1, by decide, fun k _ => by omega⟩
theorem sumN_upd0 {g : Nat → Int} {t : Nat} : ∀ {n : Nat}, t < n → sumN n g = sumN n (fun s => if s = t then 0 else g s) + g t
  | 0, h => absurd h (by omega)
  | n + 1, h => by
    rw [sumNs, sumNs]
    by_cases e : t = n
    · subst e
      have : sumN t (fun s => if s = t then 0 else g s) = sumN t g := sumN_congr fun s hs => by rw [if_neg (by omega)]
      rw [this, if_pos rfl]; omega
    · have := sumN_upd0 (g := g) (n := n) (t := t) (by omega)
      rw [if_neg (by omega : ¬ n = t)]
      omega
theorem sumN_mulL {k : Int} {g : Nat → Int} : ∀ {n : Nat}, sumN n (fun j => k * g j) = k * sumN n g
  | 0 => by show (0 : Int) = k * 0; omega
  | n + 1 => by rw [sumNs, sumNs, sumN_mulL, Int.mul_add]
theorem next_sol {p : Nat} {rs : List (List Int)} (hp : p < P) (h : ∀ r ∈ rs, RI P ts p (bp p) r) (hy : ∃ y, SolR P (nextL p rs) y) : ∃ y, SolR P rs y := by
  obtain ⟨y, hy⟩ := hy
  unfold nextL at hy
  cases q : rs.filter (nz p) with
  | nil => rw [q] at hy; exact ⟨y, hy⟩
  | cons s tail =>
    rw [q] at hy
    have hf : ∀ r ∈ s :: tail, r ∈ rs ∧ gI r p ≠ 0 := fun r hr => by
      rw [← q] at hr
      obtain ⟨h1, h2⟩ := List.mem_filter.mp hr
      refine ⟨h1, ?_⟩
      unfold nz at h2
      simpa using h2
    obtain ⟨hs, hs0⟩ := hf s List.mem_cons_self
    have hone : gI s p = 1 ∨ gI s p = -1 := by
      obtain ⟨a, e, z, g1, _, v1⟩ := (h s hs).iv
      have := v1 p hp
      by_cases w : a ≤ p ∧ p < e
      · rw [if_pos w] at this; rw [this]; exact g1
      · rw [if_neg w] at this; exact absurd this hs0
    -- the place's number out of the row that is taken away
    have key : ∀ (r : List Int) (v : Int), sumN P (fun k => gI r k * (if k = p then v else y k)) = sumN P (fun k => if k = p then 0 else gI r k * y k) + gI r p * v := fun r v => by
      rw [sumN_upd0 (t := p) hp]
      have : (sumN P fun k => if k = p then 0 else gI r k * (if k = p then v else y k)) = sumN P fun k => if k = p then 0 else gI r k * y k := sumN_congr fun k _ => by
        by_cases e : k = p
        · rw [if_pos e, if_pos e]
        · rw [if_neg e, if_neg e, if_neg e]
      rw [this, if_pos rfl]
    have key0 : ∀ r : List Int, sumN P (fun k => gI r k * y k) = sumN P (fun k => if k = p then 0 else gI r k * y k) + gI r p * y p := fun r => sumN_upd0 (g := fun k => gI r k * y k) hp
    refine ⟨fun k => if k = p then gI s p * (gI s P - sumN P fun k => if k = p then 0 else gI s k * y k) else y k, fun r hr => ?_⟩
    rw [key]
    have es : (sumN P fun k => if k = p then 0 else gI s k * y k) + gI s p * (gI s p * (gI s P - sumN P fun k => if k = p then 0 else gI s k * y k)) = gI s P := by
      rw [← Int.mul_assoc]
      rcases hone with e | e <;> rw [e] <;> omega
    by_cases hz : gI r p = 0
    · have := hy r (List.mem_append_left _ (List.mem_filter.mpr ⟨hr, by unfold zr; rw [hz]; rfl⟩))
      rw [key0, hz] at this
      rw [hz]
      omega
    · have hm : r ∈ s :: tail := by rw [← q]; exact List.mem_filter.mpr ⟨hr, by unfold nz; simpa using hz⟩
      rcases List.mem_cons.mp hm with rfl | hm
      · exact es
      · have h1 := hy _ (List.mem_append_right _ (List.mem_map_of_mem hm))
        obtain ⟨g, g0, hg⟩ := less_mul (r := zipR r s p)
        have hl : r.length = s.length := (h r hr).len.trans (h s hs).len.symm
        have hPl : P < r.length := by rw [(h r hr).len]; omega
        have e2 : sumN P (fun k => gI (zipR r s p) k * y k) = gI (zipR r s p) P := by
          rw [hg P (by rw [zipR_len hl]; exact hPl), ← h1, Int.mul_comm]
          rw [← sumN_mulL]
          exact sumN_congr fun k hk => by rw [hg k (by rw [zipR_len hl]; omega), Int.mul_comm (gI (lessL _) k) g, Int.mul_assoc]
        rw [zipR_get hl hPl] at e2
        have e3 : sumN P (fun k => gI (zipR r s p) k * y k) = sumN P (fun k => gI r k * y k) * gI s p - sumN P (fun k => gI s k * y k) * gI r p := sumN_lin fun k hk => by
          rw [zipR_get hl (by omega), Int.sub_mul, Int.mul_right_comm, Int.mul_right_comm (gI s k)]
        rw [e3, key0, key0] at e2
        generalize (sumN P fun k => if k = p then 0 else gI r k * y k) = A at e2 ⊢
        generalize (sumN P fun k => if k = p then 0 else gI s k * y k) = S at e2 es ⊢
        generalize gI s p = a at *
        generalize gI r p = b at *
        generalize gI r P = R at *
        generalize gI s P = T at *
        have e4 : (A + b * y p) * a - (S + a * y p) * b = A * a - S * b := by
          rw [Int.add_mul, Int.add_mul, Int.mul_right_comm b, Int.mul_right_comm a, Int.mul_comm b a]; omega
        rw [e4] at e2
        rcases hone with e | e
        · rw [e] at e2 ⊢
          rw [Int.mul_one, Int.mul_one] at e2
          rw [Int.one_mul, Int.mul_sub, Int.mul_comm b T, Int.mul_comm b S]; omega
        · rw [e] at e2 ⊢
          have : b * (-1 * (T - S)) = S * b - T * b := by
            rw [Int.neg_mul, Int.one_mul, Int.mul_neg, Int.mul_sub, Int.mul_comm b T, Int.mul_comm b S]; omega
          rw [this]; omega
theorem win_cv {f s : Nat} {y : Nat → Int} : ∀ {n : Nat}, s + f ≤ n → sumN n (fun q => cv f q s * y q) = cnt f y s := by
  intro n hn
  rw [sumN_split (t := s) (by omega)]
  have e1 : (sumN s fun q => cv f q s * y q) = sumN s fun _ => 0 := sumN_congr fun q hq => by unfold cv; rw [if_neg (by omega)]; omega
  rw [e1, sumN_const, sumN_split (t := f) (n := n - s) (by omega)]
  have e2 : (sumN f fun j => cv f (s + j) s * y (s + j)) = cnt f y s := by
    unfold cnt
    exact sumN_congr fun j hj => by unfold cv; rw [if_pos (by omega)]; omega
  have e3 : (sumN (n - s - f) fun j => cv f (s + (f + j)) s * y (s + (f + j))) = sumN (n - s - f) fun _ => 0 := sumN_congr fun j _ => by unfold cv; rw [if_neg (by omega)]; omega
  rw [e2, e3, sumN_const]; omega
theorem sol_of_stands {rs0 : List (List Int)} (hT : TOk P ts) (hA : InS P ts ts.length 0 rs0) (hy : ∃ y, SolR P rs0 y) : ∃ y, Sol P ts 1 y := by
  obtain ⟨y, hy⟩ := hy
  refine ⟨y, fun t ht s hs => ?_⟩
  obtain ⟨i, hi⟩ := List.getElem?_of_mem ht
  have hlt := (List.getElem?_eq_some_iff.mp hi).1
  obtain ⟨t1, t2, t3, _⟩ := hT.2.2 t ht
  have hm := hA.2 i s t hi (by omega) (.inl hlt)
  have e := hy _ hm
  rw [init_P] at e
  rw [Int.one_mul, ← e, ← win_cv hs]
  exact sumN_congr fun q hq => by rw [init_q hq]
theorem F_weights_eq (hT : TOk P ts) (hL : Lg P ts) : (F_weights [.int (P : Int), tsD ts] = some .none ∧ ∃ y, Sol P ts 1 y) ∨
    ∃ Ws : List (List Int), F_weights [.int (P : Int), tsD ts] = some (.tuple (Ws.map fun W => .tuple (iL W))) ∧ Ws.length = ts.length ∧ (∀ k W, Ws[k]? = some W → W.length = nN ts k ∧ ∀ x ∈ W, -407686348800 ≤ x ∧ x ≤ 407686348800) ∧ ansN P ts (wt (Ws.map fun W => .tuple (iL W))) = true := by
  have eN := F_need_long_eq hT hL
  have hT0 := hT
  obtain ⟨rs0, eA, lA, hA⟩ := F_all_stands_eq hT
  have hM := MN_le hT
  obtain ⟨hP, h3, hTs⟩ := hT
  have oP : okR (P : Int) = true := okR_of (by omega) (by omega)
  have f0 : few 0 = true := by decide
  have hlen : ∀ {p : Nat} {B : Int} {r : List Int}, RI P ts p B r → r.length ≤ 1000 := fun h => by rw [h.len]; omega
  -- the loop over the places
  have loop : ∃ ρ' c', sFor (sR1 (sCons (sV 0) sNil)) (qN 3)
       (sThen [3, 4] (sSeq (sAsg (sOfL (sLc (sItL (sV 2)) (qN 11) (sB (sOp neD (sOp ixD (sV 11) (sV 3)) (sC (.int 0)))) (sV 11) [11])) (qN 4))
       (sIfS (sB (sOp neD (sV 4) (sLst sNil)))
       (sThen [5] (sSeq (sAsg (sOfL (sLc (sItL (sV 2)) (qN 11) (sB (sOp eqD (sOp ixD (sV 11) (sV 3)) (sC (.int 0)))) (sV 11) [11])) (qN 5))
       (sAsg (sOp addD (sV 5) (sOfL (sLc (sItL (sSl slD (sV 4) (sP (sC (.int 1))) sNoP)) (qN 11) sYes (sCall F_without (sCons (sV 11) (sCons (sOp ixD (sV 4) (sC (.int 0))) (sCons (sV 3) sNil)))) [11]))) (qN 2))))
       sNext)))
       [.im (.int (P : Int)), .im (tsD ts), .im (.list (rowsD rs0)), .un, .un, .un, .un, .un, .un, .un, .un, .un] (0, 0) = some (.nx, ρ', c') ∧ (c' = (0, 0) ∧ ∃ rs, ρ' = [.im (.int (P : Int)), .im (tsD ts), .im (.list (rowsD rs)), .un, .un, .un, .un, .un, .un, .un, .un, .un] ∧ rs.length ≤ 72 ∧ (∀ r ∈ rs, RI P ts (rngL 0 P).length (bp (rngL 0 P).length) r) ∧ ((∃ y, SolR P rs y) → ∃ y, SolR P rs0 y)) := by
    refine for_inv (c1 := (0, 0)) (xs := rngL 0 P) (fun p ρ c => c = (0, 0) ∧ ∃ rs, ρ = [.im (.int (P : Int)), .im (tsD ts), .im (.list (rowsD rs)), .un, .un, .un, .un, .un, .un, .un, .un, .un] ∧ rs.length ≤ 72 ∧ (∀ r ∈ rs, RI P ts p (bp p) r) ∧ ((∃ y, SolR P rs y) → ∃ y, SolR P rs0 y)) (by simp [oP]) ⟨rfl, rs0, rfl, by omega, hA.1, id⟩ fun p x ρ c hx hI => ?_
    obtain ⟨rfl, rs, rfl, hl, hr, hso⟩ := hI
    obtain ⟨hp, rfl⟩ := rngL_lt hx
    rw [show (0 : Int) + (p : Int) = (p : Int) by omega]
    have hb := bp_le (p := p + 1) (by omega)
    have hb0 := bp_le (p := p) (by omega)
    have hpr : ∀ r ∈ rs, p < r.length := fun r h => by rw [(hr r h).len]; omega
    have frs : few (rowsD rs).length = true := few_of (by rw [rowsD_len]; omega)
    refine ⟨_, [.im (.int (P : Int)), .im (tsD ts), .im (.list (rowsD (nextL p rs))), .un, .un, .un, .un, .un, .un, .un, .un, .un], (0, 0), rfl, ?_, rfl, nextL p rs, rfl, Nat.le_trans next_len hl, next_RI hp hr, fun hy => hso (next_sol hp hr hy)⟩
    have l1 := lc_nz (ρ0 := [.im (.int (P : Int)), .im (tsD ts), .im (.list (rowsD rs)), .im (.int (p : Int)), .un, .un, .un, .un, .un, .un, .un, .un]) (rs := rs) (p := p) (k := 3) (c := (0, 0)) rfl hpr rfl (by decide)
    have s1 : ∀ {g : SS} {ρ' : Rho}, g [.im (.int (P : Int)), .im (tsD ts), .im (.list (rowsD rs)), .im (.int (p : Int)), .im (.list (rowsD (rs.filter (nz p)))), .un, .un, .un, .un, .un, .un, .un] (0, 0) = some (.nx, ρ', (0, 0)) → sSeq (sAsg (sOfL (sLc (sItL (sV 2)) (qN 11) (sB (sOp neD (sOp ixD (sV 11) (sV 3)) (sC (.int 0)))) (sV 11) [11])) (qN 4)) g [.im (.int (P : Int)), .im (tsD ts), .im (.list (rowsD rs)), .im (.int (p : Int)), .un, .un, .un, .un, .un, .un, .un, .un] (0, 0) = some (.nx, ρ', (0, 0)) := fun {g ρ'} h => by
      refine seq_run (ρ1 := [.im (.int (P : Int)), .im (tsD ts), .im (.list (rowsD rs)), .im (.int (p : Int)), .im (.list (rowsD (rs.filter (nz p)))), .un, .un, .un, .un, .un, .un, .un]) (c1 := (0, 0)) ?_ h
      rw [ev_sAsg, ev_sOfL, ev_sLc, ev_sItL, ev_sV]
      simp only [List.getElem?_cons_succ, List.getElem?_cons_zero, Option.bind_some, frs, if_true, ev_wipe0, ev_wipe1, List.set_cons_succ, List.set_cons_zero]
      rw [l1]
      rfl
    unfold nextL
    cases q : rs.filter (nz p) with
    | nil =>
      rw [q] at s1
      refine then_run (s1 (DL.ifF (c1 := (0, 0)) ?_ rfl)) rfl
      have := rows_ne (rs := [])
      simp only [ev_sB, ev_sOp, ev_sV, ev_sLst, ev_sNil, List.getElem?_cons_succ, List.getElem?_cons_zero, Option.bind_some, List.length_nil, f0, if_true, this]
      rfl
    | cons s tail =>
      rw [q] at s1
      have hf : ∀ r ∈ s :: tail, r ∈ rs ∧ gI r p ≠ 0 := fun r hr => by
        rw [← q] at hr
        obtain ⟨h1, h2⟩ := List.mem_filter.mp hr
        refine ⟨h1, ?_⟩
        unfold nz at h2
        simpa using h2
      have l2 := lc_zr (ρ0 := [.im (.int (P : Int)), .im (tsD ts), .im (.list (rowsD rs)), .im (.int (p : Int)), .im (.list (rowsD (s :: tail))), .un, .un, .un, .un, .un, .un, .un]) (rs := rs) (p := p) (k := 3) (c := (0, 0)) rfl hpr rfl (by decide)
      refine then_run (ρ1 := [.im (.int (P : Int)), .im (tsD ts), .im (.list (rowsD (rs.filter (zr p) ++ tail.map fun r => lessL (zipR r s p)))), .im (.int (p : Int)), .im (.list (rowsD (s :: tail))), .un, .un, .un, .un, .un, .un, .un]) (s1 (DL.ifT (c1 := (0, 0)) ?_ ?_)) rfl
      · have := rows_ne (rs := s :: tail)
        simp only [ev_sB, ev_sOp, ev_sV, ev_sLst, ev_sNil, List.getElem?_cons_succ, List.getElem?_cons_zero, Option.bind_some, List.length_nil, f0, if_true, this]
        rfl
      · refine then_run (ρ1 := [.im (.int (P : Int)), .im (tsD ts), .im (.list (rowsD (rs.filter (zr p) ++ tail.map fun r => lessL (zipR r s p)))), .im (.int (p : Int)), .im (.list (rowsD (s :: tail))), .im (.list (rowsD (rs.filter (zr p)))), .un, .un, .un, .un, .un, .un]) ?_ rfl
        refine seq_run (ρ1 := [.im (.int (P : Int)), .im (tsD ts), .im (.list (rowsD rs)), .im (.int (p : Int)), .im (.list (rowsD (s :: tail))), .im (.list (rowsD (rs.filter (zr p)))), .un, .un, .un, .un, .un, .un]) (c1 := (0, 0)) ?_ ?_
        · rw [ev_sAsg, ev_sOfL, ev_sLc, ev_sItL, ev_sV]
          simp only [List.getElem?_cons_succ, List.getElem?_cons_zero, Option.bind_some, frs, if_true, ev_wipe0, ev_wipe1, List.set_cons_succ, List.set_cons_zero]
          rw [l2]
          rfl
        · have ls : (s :: tail).length ≤ rs.length := by
            rw [← q]; exact List.length_filter_le _ _
          rw [List.length_cons] at ls
          have lz : (rs.filter (zr p)).length ≤ rs.length := List.length_filter_le _ _
          have l3 := lcS_map (tg := qN 11) (e := sCall F_without (sCons (sV 11) (sCons (sOp ixD (sV 4) (sC (.int 0))) (sCons (sV 3) sNil)))) (ρ0 := [.im (.int (P : Int)), .im (tsD ts), .im (.list (rowsD rs)), .im (.int (p : Int)), .im (.list (rowsD (s :: tail))), .im (.list (rowsD (rs.filter (zr p)))), .un, .un, .un, .un, .un, .un]) (xs := rowsD tail) (c := (0, 0)) (fun d => .list (iL (lessL (zipR (rowI d) s p)))) (fun x hx => by
            obtain ⟨r, hr', rfl⟩ := List.mem_map.mp hx
            refine ⟨_, rfl, ?_⟩
            obtain ⟨a1, a2⟩ := hf r (List.mem_cons_of_mem _ hr')
            obtain ⟨b1, b2⟩ := hf s List.mem_cons_self
            have R1 := hr r a1
            have R2 := hr s b1
            have hz := R1.zip R2 hp a2 b2
            have k1 := R1.bd p (hpr r a1)
            have k2 := R2.bd p (hpr s b1)
            have e0 : atI (rowsD (s :: tail)) 0 = some (.list (iL s)) := atI_nat (j := 0) rfl
            have e1 := F_without_eq (B := 2 * bp p) (r := r) (o := s) (p := p) (by omega) (by rw [← bp_up]; omega) (gcd_lt hz (by omega)) (R1.len.trans R2.len.symm) (hlen R1) (hpr r a1) (by omega) (by omega) hz.bd
            rw [rowI_eq]
            simp only [ev_sCall, ev_sCons, ev_sNil, ev_sOp, ev_sV, ev_sC, ev_qN, List.set_cons_succ, List.set_cons_zero, List.getElem?_cons_succ, List.getElem?_cons_zero, Option.bind_some, ev_ixL, e0, e1])
          have e5 : (rowsD tail).map (fun d => PyData.list (iL (lessL (zipR (rowI d) s p)))) = rowsD (tail.map fun r => lessL (zipR r s p)) := by
            unfold rowsD
            rw [List.map_map, List.map_map]
            refine List.map_congr_left fun r _ => ?_
            show PyData.list (iL (lessL (zipR (rowI (.list (iL r))) s p))) = _
            rw [rowI_eq]; rfl
          rw [e5] at l3
          have ft : few (rowsD tail).length = true := few_of (by rw [rowsD_len]; omega)
          have e6 : cutL (rowsD (s :: tail)) (some 1) none = rowsD tail := by rw [cut_1]; rfl
          have fs : few ((rowsD (rs.filter (zr p))).length + (rowsD (tail.map fun r => lessL (zipR r s p))).length) = true := few_of (by rw [rowsD_len, rowsD_len, List.length_map]; omega)
          have e7 : rowsD (rs.filter (zr p)) ++ rowsD (tail.map fun r => lessL (zipR r s p)) = rowsD (rs.filter (zr p) ++ tail.map fun r => lessL (zipR r s p)) := by unfold rowsD; rw [List.map_append]
          simp only [ev_sAsg, ev_sOp, ev_sV, ev_sOfL, ev_sLc, ev_sItL, ev_sSl, ev_sP, ev_sNoP, ev_sC, List.getElem?_cons_succ, List.getElem?_cons_zero, Option.bind_some, ev_slL, e6, ft, if_true, ev_wipe0, ev_wipe1, List.set_cons_succ, List.set_cons_zero, l3, ev_addLL, fs, e7, ev_qN]
  obtain ⟨ρ', c', e, rfl, rs, rfl, hl, hr, hso⟩ := loop
  rw [rngL_len] at hr
  have hPr : ∀ r ∈ rs, P < r.length := fun r h => by rw [(hr r h).len]; omega
  have frs : few (rowsD rs).length = true := few_of (by rw [rowsD_len]; omega)
  have l1 := lc_nz (ρ0 := [.im (.int (P : Int)), .im (tsD ts), .im (.list (rowsD rs)), .un, .un, .un, .un, .un, .un, .un, .un, .un]) (rs := rs) (p := P) (k := 0) (c := (0, 0)) rfl hPr rfl (by decide)
  have start : ∀ {g : SS} {Q : Fl × Rho × Dr → Prop}, Runs g [.im (.int (P : Int)), .im (tsD ts), .im (.list (rowsD rs)), .un, .un, .un, .im (.list (rowsD (rs.filter (nz P)))), .un, .un, .un, .un, .un] (0, 0) Q → Runs (sSeq (sDrop (sCall F_need_long (sCons (sV 0) (sCons (sV 1) sNil))))
       (sSeq (sAsg (sCall F_all_stands (sCons (sV 0) (sCons (sV 1) sNil))) (qN 2))
       (sSeq (sFor (sR1 (sCons (sV 0) sNil)) (qN 3)
       (sThen [3, 4] (sSeq (sAsg (sOfL (sLc (sItL (sV 2)) (qN 11) (sB (sOp neD (sOp ixD (sV 11) (sV 3)) (sC (.int 0)))) (sV 11) [11])) (qN 4))
       (sIfS (sB (sOp neD (sV 4) (sLst sNil)))
       (sThen [5] (sSeq (sAsg (sOfL (sLc (sItL (sV 2)) (qN 11) (sB (sOp eqD (sOp ixD (sV 11) (sV 3)) (sC (.int 0)))) (sV 11) [11])) (qN 5))
       (sAsg (sOp addD (sV 5) (sOfL (sLc (sItL (sSl slD (sV 4) (sP (sC (.int 1))) sNoP)) (qN 11) sYes (sCall F_without (sCons (sV 11) (sCons (sOp ixD (sV 4) (sC (.int 0))) (sCons (sV 3) sNil)))) [11]))) (qN 2))))
       sNext))))
       (sSeq (sAsg (sOfL (sLc (sItL (sV 2)) (qN 11) (sB (sOp neD (sOp ixD (sV 11) (sV 0)) (sC (.int 0)))) (sV 11) [11])) (qN 6)) g)))) ([PyData.int (P : Int), tsD ts].map .im ++ List.replicate 10 .un) (0, 0) Q := fun {g Q} h => by
    refine .seq (ρ1 := [.im (.int (P : Int)), .im (tsD ts), .un, .un, .un, .un, .un, .un, .un, .un, .un, .un]) (c1 := (0, 0)) ?_ ?_
    · unfold sDrop
      simp only [ev_sCall, ev_sCons, ev_sNil, ev_sV, List.map_cons, List.map_nil, List.cons_append, List.nil_append, List.replicate_succ, List.replicate_zero, List.getElem?_cons_succ, List.getElem?_cons_zero, Option.bind_some, eN]
    refine .seq (ρ1 := [.im (.int (P : Int)), .im (tsD ts), .im (.list (rowsD rs0)), .un, .un, .un, .un, .un, .un, .un, .un, .un]) (c1 := (0, 0)) ?_ ?_
    · simp only [ev_sAsg, ev_sCall, ev_sCons, ev_sNil, ev_sV, List.getElem?_cons_succ, List.getElem?_cons_zero, Option.bind_some, eA, ev_qN, List.set_cons_succ, List.set_cons_zero]
    refine .seq e ?_
    refine .seq ?_ h
    rw [ev_sAsg, ev_sOfL, ev_sLc, ev_sItL, ev_sV]
    simp only [List.getElem?_cons_succ, List.getElem?_cons_zero, Option.bind_some, frs, if_true, ev_wipe0, ev_wipe1, List.set_cons_succ, List.set_cons_zero]
    rw [l1]
    rfl
  cases q : rs.filter (nz P) with
  | nil =>
    refine .inl ⟨bodyP_of rfl ?_, sol_of_stands hT0 hA (hso ⟨fun _ => 0, fun r hr' => ?_⟩)⟩
    rotate_left
    · have h1 : gI r P = 0 := Classical.byContradiction fun z => by
        have : r ∈ rs.filter (nz P) := List.mem_filter.mpr ⟨hr', by unfold nz; simpa using z⟩
        rw [q] at this; cases this
      rw [h1]
      have : (sumN P fun q => gI r q * 0) = sumN P fun _ => 0 := sumN_congr fun _ _ => Int.mul_zero _
      rw [this, sumN_const]; simp
    unfold S_weights
    refine start ?_
    rw [q]
    have := rows_eq (rs := [])
    refine .leave (c1 := (0, 0)) (c2 := (0, 0)) (d := .none) ?_ rfl rfl
    simp only [ev_sB, ev_sOp, ev_sV, ev_sLst, ev_sNil, List.getElem?_cons_succ, List.getElem?_cons_zero, Option.bind_some, List.length_nil, f0, if_true, this]
    rfl
  | cons r tail =>
    have hr0 : r ∈ rs ∧ gI r P ≠ 0 := by
      have : r ∈ rs.filter (nz P) := by rw [q]; exact List.mem_cons_self
      obtain ⟨h1, h2⟩ := List.mem_filter.mp this
      refine ⟨h1, ?_⟩
      unfold nz at h2
      simpa using h2
    have R := hr r hr0.1
    have hbP := bp_le hP
    refine .inr ⟨(List.range ts.length).map (seg P ts r), ?_, by simp, fun k W hW => ?_, ?_⟩
    · refine bodyP_of rfl ?_
      unfold S_weights
      refine start ?_
      rw [q]
      have := rows_eq (rs := r :: tail)
      refine .pass (c1 := (0, 0)) ?_ ?_
      · simp only [ev_sB, ev_sOp, ev_sV, ev_sLst, ev_sNil, List.getElem?_cons_succ, List.getElem?_cons_zero, Option.bind_some, List.length_nil, f0, if_true, this]
        rfl
      refine .seq (ρ1 := [.im (.int (P : Int)), .im (tsD ts), .im (.list (rowsD rs)), .un, .un, .un, .im (.list (rowsD (r :: tail))), .ol [], .im (.int ((P + 1 + offN ts 0 : Nat) : Int)), .un, .un, .un]) (c1 := (0, 0)) ?_ ?_
      · simp only [ev_sMany, ev_sAvF, ev_sDispL, ev_sNil, ev_sAvP, ev_sAvNil, ev_sOp, ev_sV, ev_sC, List.getElem?_cons_succ, List.getElem?_cons_zero, Option.bind_some, List.length_cons, List.length_nil, f0, if_true, ev_addII, ev_setAv, ev_setAv0, ev_slP, ev_slF, List.set_cons_succ, List.set_cons_zero]
        rfl
      have lp := for_run (c1 := (0, 0)) (c := (0, 0)) (fi := sItT (sV 1)) (tg := duoT 9 10) (body := (sThen [9, 10] (sSeq (sApp 7 (sCB tupleD (sCons (sSl slD (sOp ixD (sV 6) (sC (.int 0))) (sP (sV 8)) (sP (sOp addD (sV 8) (sCB lenD (sCons (sV 10) sNil))))) sNil)))
         (sAsg (sOp addD (sV 8) (sCB lenD (sCons (sV 10) sNil))) (qN 8))))) (ρ := [.im (.int (P : Int)), .im (tsD ts), .im (.list (rowsD rs)), .un, .un, .un, .im (.list (rowsD (r :: tail))), .ol [], .im (.int ((P + 1 + offN ts 0 : Nat) : Int)), .un, .un, .un]) (xs := ts.map tfD)
        (st := fun i => [.im (.int (P : Int)), .im (tsD ts), .im (.list (rowsD rs)), .un, .un, .un, .im (.list (rowsD (r :: tail))), .ol ((List.range i).map fun k => .tuple (iL (seg P ts r k))), .im (.int ((P + 1 + offN ts i : Nat) : Int)), .un, .un, .un]) (by simp [tsD]) rfl fun i x hx => by
          rw [List.getElem?_map] at hx
          obtain ⟨t, ht, rfl⟩ := Option.map_eq_some_iff.mp hx
          have hi : i < ts.length := (List.getElem?_eq_some_iff.mp ht).1
          have hoff : offN ts i + nN ts i ≤ MN ts := offN_mono hi
          have hn := nN_at ht
          refine ⟨_, rfl, then_run (ρ1 := [.im (.int (P : Int)), .im (tsD ts), .im (.list (rowsD rs)), .un, .un, .un, .im (.list (rowsD (r :: tail))), .ol ((List.range (i + 1)).map fun k => .tuple (iL (seg P ts r k))), .im (.int ((P + 1 + offN ts (i + 1) : Nat) : Int)), .im (.int (t.1 : Int)), .im (.tuple (iL t.2)), .un]) ?_ rfl⟩
          have e0 : atI (rowsD (r :: tail)) 0 = some (.list (iL r)) := atI_nat (j := 0) rfl
          have e1 : ((P + 1 + offN ts i : Nat) : Int) + ((iL t.2).length : Int) = ((P + 1 + offN ts (i + 1) : Nat) : Int) := by
            show _ = ((P + 1 + (offN ts i + nN ts i) : Nat) : Int)
            rw [iL_len, hn]; omega
          have e2 : cutL (iL r) (some ((P + 1 + offN ts i : Nat) : Int)) (some ((P + 1 + offN ts (i + 1) : Nat) : Int)) = iL (seg P ts r i) := by
            have hs : P + 1 + offN ts (i + 1) = P + 1 + offN ts i + nN ts i := by
              show P + 1 + (offN ts i + nN ts i) = _
              omega
            rw [cut_mid (by omega) (by rw [iL_len, R.len]; omega), hs]
            unfold seg iL
            rw [List.map_take, List.map_drop, show P + 1 + offN ts i + nN ts i - (P + 1 + offN ts i) = nN ts i by omega]
          have fl : few ((List.range i).map fun k => PyData.tuple (iL (seg P ts r k))).length = true := few_of (by rw [List.length_map, List.length_range]; omega)
          have e3 : ((List.range (i + 1)).map fun k => PyData.tuple (iL (seg P ts r k))) = ((List.range i).map fun k => PyData.tuple (iL (seg P ts r k))) ++ [.tuple (iL (seg P ts r i))] := by rw [List.range_succ, List.map_append]; rfl
          rw [e3]
          refine seq_run (ρ1 := [.im (.int (P : Int)), .im (tsD ts), .im (.list (rowsD rs)), .un, .un, .un, .im (.list (rowsD (r :: tail))), .ol (((List.range i).map fun k => .tuple (iL (seg P ts r k))) ++ [.tuple (iL (seg P ts r i))]), .im (.int ((P + 1 + offN ts i : Nat) : Int)), .im (.int (t.1 : Int)), .im (.tuple (iL t.2)), .un]) (c1 := (0, 0)) ?_ ?_
          · simp only [ev_sApp, ev_sCB, ev_sCons, ev_sNil, ev_sSl, ev_sP, ev_sOp, ev_sV, ev_sC, List.getElem?_cons_succ, List.getElem?_cons_zero, Option.bind_some, ev_ixL, e0, ev_lenT, ev_addII, e1, ev_slL, e2, ev_tupL, fl, if_true, List.set_cons_succ, List.set_cons_zero]
          · simp only [ev_sAsg, ev_sOp, ev_sV, ev_sCB, ev_sCons, ev_sNil, List.getElem?_cons_succ, List.getElem?_cons_zero, Option.bind_some, ev_lenT, ev_addII, e1, ev_qN, List.set_cons_succ, List.set_cons_zero]
      rw [List.length_map] at lp
      refine .seq lp (.frz rfl (.ret (d := .tuple ((List.range ts.length).map fun k => .tuple (iL (seg P ts r k)))) (c1 := (0, 0)) ?_ ?_))
      · simp only [ev_sCB, ev_sCons, ev_sNil, ev_sV, List.set_cons_succ, List.set_cons_zero, List.getElem?_cons_succ, List.getElem?_cons_zero, Option.bind_some, ev_tupL]
      · rw [List.map_map]; rfl
    · rw [List.getElem?_map] at hW
      obtain ⟨k', hk, rfl⟩ := Option.map_eq_some_iff.mp hW
      obtain ⟨hk1, hk2⟩ := List.getElem?_eq_some_iff.mp hk
      rw [List.length_range] at hk1
      rw [List.getElem_range] at hk2
      subst hk2
      refine ⟨seg_len R.len hk1, fun x hx => ?_⟩
      have hx' : x ∈ r := List.drop_subset _ _ (List.take_subset _ _ hx)
      have := Bd.mem (B := bp P) R.bd hx'
      omega
    · have hw : ∀ a b, a < ts.length → b < nN ts a → wt (((List.range ts.length).map (seg P ts r)).map fun W => .tuple (iL W)) a b = wR P ts r a b := fun a b ha hb => by
        rw [← seg_get hb]
        refine wt_at (ys := iL (seg P ts r a)) ?_ ?_
        · rw [List.getElem?_map, List.getElem?_map, List.getElem?_range ha]; rfl
        · have hl := seg_len R.len ha
          rw [iL_get, List.getElem?_eq_getElem (by omega)]
          unfold gI
          simp [List.getD, hl, hb]
      unfold ansN
      rw [whN_ds, ds_congr hw, ← R.linc, Bool.and_eq_true]
      refine ⟨by simpa using hr0.2, List.all_eq_true.mpr fun z hz => ?_⟩
      have hz := List.mem_range.mp hz
      rw [smN_ds, ds_congr hw, ← R.lin z hz, decide_eq_true_eq]
      obtain ⟨a, e, s, _, la, va⟩ := R.iv
      rw [va z hz, if_neg (by omega)]
end
end X
namespace X
open PySem PySem.Spec L2 DL DM
theorem forN_inv {tg : D → Rho → Option Rho} {body : SN} : ∀ {xs : List D} (I : Nat → Rho → List (List D) → Dr → Prop) {ρ : Rho} {nss : List (List D)} {c : Dr}, I 0 ρ nss c → (∀ i x ρ nss c, xs[i]? = some x → I i ρ nss c → ∃ ρ1 r, tg x ρ = some ρ1 ∧ body ρ1 nss c = some r ∧ I (i + 1) r.1 r.2.1 r.2.2) → ∃ r, forN tg body xs ρ nss c = some r ∧ I xs.length r.1 r.2.1 r.2.2
  | [], I, ρ, nss, c, h0, _ => ⟨(ρ, nss, c), rfl, h0⟩
  | x :: xs, I, ρ, nss, c, h0, h => by
    obtain ⟨ρ1, r, e1, e2, e3⟩ := h 0 x ρ nss c rfl h0
    obtain ⟨r', e4, e5⟩ := forN_inv (xs := xs) (fun i => I (i + 1)) e3 fun i y ρ nss c e => h (i + 1) y ρ nss c e
    refine ⟨r', ?_, e5⟩
    show ((tg x ρ).bind fun ρ1 => (body ρ1 nss c).bind fun r => forN tg body xs r.1 r.2.1 r.2.2) = _
    rw [e1]
    show ((body ρ1 nss c).bind fun r => _) = _
    rw [e2]
    exact e4
/-! ties -/
def dC (t : TF) (s : Nat) : Int := gI t.2 (s + 1) - gI t.2 s
/-- two places that hang together by the first so many stands -/
def EdN (P : Nat) (ts : List TF) (i k p q : Nat) (m : Int) : Prop := ∃ a s t, ts[a]? = some t ∧ s + t.1 < P ∧ (a < i ∨ (a = i ∧ s < k)) ∧ ((p = s ∧ q = s + t.1 ∧ m = dC t s) ∨ (p = s + t.1 ∧ q = s ∧ m = 0 - dC t s))
abbrev NL := List (List (Nat × Int))
def prD (x : Nat × Int) : D := .tuple [.int (x.1 : Int), .int x.2]
def nD (nb : NL) : List (List D) := nb.map fun xs => xs.map prD
structure NB (P : Nat) (ts : List TF) (i k : Nat) (nb : NL) : Prop where
  len : nb.length = P
  mem : ∀ p q m, (q, m) ∈ nb.getD p [] ↔ EdN P ts i k p q m
  few : ∀ p, (nb.getD p []).length ≤ 2 * (i * 24 + k)
theorem nD_get {nb : NL} {p : Nat} (h : p < nb.length) : (nD nb)[p]? = some ((nb.getD p []).map prD) := by
  unfold nD
  rw [List.getElem?_map, List.getElem?_eq_getElem h]
  simp [List.getD, h]
theorem nD_set {nb : NL} {p : Nat} {xs : List (Nat × Int)} : (nD nb).set p (xs.map prD) = nD (nb.set p xs) := by
  unfold nD
  rw [List.map_set]
theorem getD_set {nb : NL} {p q : Nat} {xs : List (Nat × Int)} (h : p < nb.length) : (nb.set p xs).getD q [] = if q = p then xs else nb.getD q [] := by
  rw [List.getD_eq_getElem?_getD, List.getElem?_set, List.getD_eq_getElem?_getD]
  by_cases e : p = q
  · subst e; rw [if_pos rfl, if_pos h, if_pos rfl]; rfl
  · rw [if_neg e, if_neg (fun z => e z.symm)]
def addE (nb : NL) (t : TF) (s : Nat) : NL := (nb.set s (nb.getD s [] ++ [(s + t.1, dC t s)])).set (s + t.1) (nb.getD (s + t.1) [] ++ [(s, 0 - dC t s)])
theorem addE_get {nb : NL} {t : TF} {s : Nat} (hs : s + t.1 < nb.length) (h1 : 1 ≤ t.1) (p : Nat) : (addE nb t s).getD p [] = if p = s + t.1 then nb.getD (s + t.1) [] ++ [(s, 0 - dC t s)] else if p = s then nb.getD s [] ++ [(s + t.1, dC t s)] else nb.getD p [] := by
  unfold addE
  rw [getD_set (by rw [List.length_set]; exact hs), getD_set (by omega)]
section
variable {P : Nat} {ts : List TF} {i k : Nat} {nb : NL} {t : TF}
theorem NB.add (h : NB P ts i k nb) (ht : ts[i]? = some t) (h1 : 1 ≤ t.1) (hk : k + t.1 < P) : NB P ts i (k + 1) (addE nb t k) := by
  have hl := h.len
  have up : ∀ {p q m}, EdN P ts i k p q m → EdN P ts i (k + 1) p q m := fun {p q m} ⟨a, s, u, e1, e2, e3, e4⟩ => ⟨a, s, u, e1, e2, by omega, e4⟩
  have dn : ∀ {p q m}, EdN P ts i (k + 1) p q m → EdN P ts i k p q m ∨ ((p = k ∧ q = k + t.1 ∧ m = dC t k) ∨ (p = k + t.1 ∧ q = k ∧ m = 0 - dC t k)) := fun {p q m} ⟨a, s, u, e1, e2, e3, e4⟩ => by
    by_cases e : a = i ∧ s = k
    · obtain ⟨rfl, rfl⟩ := e
      rw [ht] at e1; cases e1
      exact .inr e4
    · exact .inl ⟨a, s, u, e1, e2, by omega, e4⟩
  refine ⟨by unfold addE; rw [List.length_set, List.length_set]; exact hl, fun p q m => ?_, fun p => ?_⟩
  · rw [addE_get (by omega) h1]
    by_cases e1 : p = k + t.1
    · rw [if_pos e1, List.mem_append, List.mem_singleton, ← e1, h.mem]
      constructor
      · rintro (w | w)
        · exact up w
        · cases w; exact ⟨i, k, t, ht, hk, .inr ⟨rfl, by omega⟩, .inr ⟨e1, rfl, rfl⟩⟩
      · intro w
        rcases dn w with w | ⟨w, _⟩ | ⟨_, w2, w3⟩
        · exact .inl w
        · omega
        · exact .inr (by rw [w2, w3])
    · rw [if_neg e1]
      by_cases e2 : p = k
      · rw [if_pos e2, List.mem_append, List.mem_singleton, h.mem, e2]
        constructor
        · rintro (w | w)
          · exact up w
          · cases w; exact ⟨i, k, t, ht, hk, .inr ⟨rfl, by omega⟩, .inl ⟨rfl, rfl, rfl⟩⟩
        · intro w
          rcases dn w with w | ⟨_, w2, w3⟩ | ⟨w, _⟩
          · exact .inl w
          · exact .inr (by rw [w2, w3])
          · omega
      · rw [if_neg e2, h.mem]
        constructor
        · exact up
        · intro w
          rcases dn w with w | ⟨w, _⟩ | ⟨w, _⟩
          · exact w
          · exact absurd w e2
          · exact absurd w e1
  · have h0 := h.few p
    have h2 := h.few k
    have h3 := h.few (k + t.1)
    rw [addE_get (by omega) h1]
    split
    · rw [List.length_append, List.length_singleton]; omega
    · split
      · rw [List.length_append, List.length_singleton]; omega
      · omega
theorem NB.next (h : NB P ts i (P - t.1) nb) (ht : ts[i]? = some t) (hP : P ≤ 24) : NB P ts (i + 1) 0 nb := by
  refine ⟨h.len, fun p q m => ?_, fun p => ?_⟩
  · rw [h.mem]
    constructor
    · rintro ⟨a, s, u, e1, e2, e3, e4⟩
      exact ⟨a, s, u, e1, e2, by omega, e4⟩
    · rintro ⟨a, s, u, e1, e2, e3, e4⟩
      refine ⟨a, s, u, e1, e2, ?_, e4⟩
      by_cases e : a = i
      · subst e
        rw [ht] at e1; cases e1
        exact .inr ⟨rfl, by omega⟩
      · omega
  · have := h.few p
    omega
theorem NB.start : NB P ts 0 0 (List.replicate P []) := by
  have e : ∀ p, (List.replicate P ([] : List (Nat × Int))).getD p [] = [] := fun p => by
    rw [List.getD_eq_getElem?_getD, List.getElem?_replicate]
    split <;> rfl
  refine ⟨List.length_replicate, fun p q m => ?_, fun p => by rw [e]; simp⟩
  rw [e]
  constructor
  · intro h; cases h
  · rintro ⟨a, s, u, _, _, h, _⟩; omega
abbrev nearB : SN := nThen [5, 6] (nSeq (nAsg 2 (sOp subD (sOp ixD (sV 4) (sOp addD (sV 5) (sC (.int 1)))) (sOp ixD (sV 4) (sV 5))) 6)
 (nSeq (nApp (sV 5) (sTup (sCons (sOp addD (sV 5) (sV 3)) (sCons (sV 6) sNil))))
 (nApp (sOp addD (sV 5) (sV 3)) (sTup (sCons (sV 5) (sCons (sOp subD (sC (.int 0)) (sV 6)) sNil))))))
def stN (P : Nat) (ts : List TF) (s3 s4 s5 s6 : Sl) : Rho := [.im (.int (P : Int)), .im (tsD ts), .un, s3, s4, s5, s6, .un, .un, .un, .un, .un, .un]
theorem near_step (hP : P ≤ 24) (hi : i ≤ 3) (hk24 : k ≤ 24) (hl : t.2.length = P - t.1 + 1) (h1 : 1 ≤ t.1) (h : NB P ts i k nb) (hk : k + t.1 < P) : nearB (stN P ts (.im (.int (t.1 : Int))) (.im (.tuple (iL t.2))) (.im (.int (k : Int))) .un) (nD nb) (0, 0) = some (stN P ts (.im (.int (t.1 : Int))) (.im (.tuple (iL t.2))) .un .un, nD (addE nb t k), (0, 0)) := by
  have f2 : few 2 = true := by decide
  have a1 : atI (iL t.2) ((k : Int) + 1) = some (.int (gI t.2 (k + 1))) := atI_iL (j := k + 1) (by omega)
  have a2 : atI (iL t.2) (k : Int) = some (.int (gI t.2 k)) := atI_iL (by omega)
  have g1 : (nD nb)[k]? = some ((nb.getD k []).map prD) := nD_get (by rw [h.len]; omega)
  have l1 : few ((nb.getD k []).map prD).length = true := few_of (by rw [List.length_map]; have := h.few k; omega)
  have l2 : few ((nb.getD (k + t.1) []).map prD).length = true := few_of (by rw [List.length_map]; have := h.few (k + t.1); omega)
  have e1 : (nb.getD k []).map prD ++ [PyData.tuple [.int ((k : Int) + t.1), .int (gI t.2 (k + 1) - gI t.2 k)]] = (nb.getD k [] ++ [(k + t.1, dC t k)]).map prD := by
    rw [List.map_append]
    show _ = _ ++ [PyData.tuple [.int (((k + t.1 : Nat)) : Int), .int (dC t k)]]
    rw [Int.natCast_add]; rfl
  have g2 : (nD (nb.set k (nb.getD k [] ++ [(k + t.1, dC t k)])))[k + t.1]? = some ((nb.getD (k + t.1) []).map prD) := by
    rw [nD_get (by rw [List.length_set, h.len]; exact hk), getD_set (by rw [h.len]; omega), if_neg (by omega)]
  have e2 : (nb.getD (k + t.1) []).map prD ++ [PyData.tuple [.int (k : Int), .int (0 - (gI t.2 (k + 1) - gI t.2 k))]] = (nb.getD (k + t.1) [] ++ [(k, 0 - dC t k)]).map prD := by
    rw [List.map_append]; rfl
  have n1 : ((k : Int) + (t.1 : Int)).toNat = k + t.1 := by omega
  have z1 : (0 : Int) ≤ (k : Int) := by omega
  have z2 : (0 : Int) ≤ (k : Int) + (t.1 : Int) := by omega
  unfold nearB nThen nSeq nAsg nApp stN
  simp only [ev_sOp, ev_sV, ev_sC, ev_sTup, ev_sCons, ev_sNil, List.getElem?_cons_succ, List.getElem?_cons_zero, Option.bind_some, ev_ixT, ev_addII, ev_subII, a1, a2, List.set_cons_succ, List.set_cons_zero, show (6 : Nat) = 2 ↔ False from by decide, if_false, z1, if_true, Int.toNat_natCast, g1, List.length_cons, List.length_nil, Nat.zero_add, f2, l1, e1, nD_set, z2, n1, g2, l2, e2]
  rfl
theorem near_ok (hT : TOk P ts) {g : SS} : ∃ nb, NB P ts ts.length 0 nb ∧ sNear 2 12 (sCons (sV 0) sNil)
  (nFor (sItT (sV 1)) (qTup (qCons (qN 3) (qCons (qN 4) qNil))) (nThen [3, 4] (nFor (sR1 (sCons (sOp subD (sV 0) (sV 3)) sNil)) (qN 5) nearB))) g (stN P ts .un .un .un .un) (0, 0) = g ((stN P ts .un .un .un .un).set 2 (.im (.list ((nD nb).map .list)))) (0, 0) := by
  obtain ⟨hP, h3, hTs⟩ := hT
  have oP : okR (P : Int) = true := okR_of (by omega) (by omega)
  have outer := forN_inv (tg := qTup (qCons (qN 3) (qCons (qN 4) qNil))) (body := nThen [3, 4] (nFor (sR1 (sCons (sOp subD (sV 0) (sV 3)) sNil)) (qN 5) nearB)) (xs := ts.map tfD) (fun i ρ nss c => c = (0, 0) ∧ ρ = stN P ts .un .un .un .un ∧ ∃ nb, nss = nD nb ∧ NB P ts i 0 nb) (ρ := stN P ts .un .un .un .un) (nss := nD (List.replicate P [])) (c := (0, 0)) ⟨rfl, rfl, _, rfl, NB.start⟩ (fun i x ρ nss c hx hI => by
    obtain ⟨rfl, rfl, nb, rfl, hb⟩ := hI
    rw [List.getElem?_map] at hx
    obtain ⟨t, ht, rfl⟩ := Option.map_eq_some_iff.mp hx
    obtain ⟨t1, t2, t3, _⟩ := hTs t (List.mem_of_getElem? ht)
    have hi := (List.getElem?_eq_some_iff.mp ht).1
    have oR : okR ((P : Int) - t.1) = true := okR_of (by omega) (by omega)
    have eR : ((P : Int) - t.1).toNat = P - t.1 := by omega
    obtain ⟨r, e1, rfl', rfl2, nb2, e3, hb2⟩ := forN_inv (tg := qN 5) (body := nearB) (xs := rngL 0 (P - t.1)) (fun k ρ nss c => c = (0, 0) ∧ ρ = stN P ts (.im (.int (t.1 : Int))) (.im (.tuple (iL t.2))) .un .un ∧ ∃ nb, nss = nD nb ∧ NB P ts i k nb) (ρ := stN P ts (.im (.int (t.1 : Int))) (.im (.tuple (iL t.2))) .un .un) (nss := nD nb) (c := (0, 0)) ⟨rfl, rfl, _, rfl, hb⟩ (fun k x ρ nss c hx hI => by
      obtain ⟨rfl, rfl, nb, rfl, hb⟩ := hI
      obtain ⟨hk, rfl⟩ := rngL_lt hx
      rw [show (0 : Int) + (k : Int) = (k : Int) by omega]
      exact ⟨_, _, rfl, near_step hP (by omega) (by omega) t3 t1 hb (by omega), rfl, rfl, _, rfl, hb.add ht t1 (by omega)⟩)
    rw [rngL_len] at hb2
    obtain ⟨r1, r2, r3⟩ := r
    have rfl' : r3 = (0, 0) := rfl'
    have rfl2 : r1 = stN P ts (.im (.int (t.1 : Int))) (.im (.tuple (iL t.2))) .un .un := rfl2
    have e3 : r2 = nD nb2 := e3
    subst rfl' rfl2 e3
    refine ⟨_, (stN P ts .un .un .un .un, nD nb2, (0, 0)), rfl, ?_, rfl, rfl, nb2, rfl, hb2.next ht hP⟩
    unfold nThen nFor
    have : sR1 (sCons (sOp subD (sV 0) (sV 3)) sNil) (stN P ts (.im (.int (t.1 : Int))) (.im (.tuple (iL t.2))) .un .un) (0, 0) = some (rngL 0 (P - t.1), (0, 0)) := by
      unfold stN
      simp only [ev_sR1, ev_sCons, ev_sNil, ev_sOp, ev_sV, List.getElem?_cons_succ, List.getElem?_cons_zero, Option.bind_some, ev_subII, oR, if_true, eR]
    show ((Option.bind (sR1 (sCons (sOp subD (sV 0) (sV 3)) sNil) (stN P ts (.im (.int (t.1 : Int))) (.im (.tuple (iL t.2))) .un .un) (0, 0)) fun p => forN (qN 5) nearB p.1 (stN P ts (.im (.int (t.1 : Int))) (.im (.tuple (iL t.2))) .un .un) (nD nb) p.2).bind fun r => some (unset [3, 4] r.1, r.2.1, r.2.2)) = _
    rw [this]
    show ((forN (qN 5) nearB (rngL 0 (P - t.1)) (stN P ts (.im (.int (t.1 : Int))) (.im (.tuple (iL t.2))) .un .un) (nD nb) (0, 0)).bind fun r => some (unset [3, 4] r.1, r.2.1, r.2.2)) = _
    rw [e1]
    rfl)
  obtain ⟨⟨r1, r2, r3⟩, e, h1, h2, nb, h3', hb⟩ := outer
  have h1 : r3 = (0, 0) := h1
  have h2 : r1 = stN P ts .un .un .un .un := h2
  have h3' : r2 = nD nb := h3'
  subst h1 h2 h3'
  rw [List.length_map] at hb
  refine ⟨nb, hb, ?_⟩
  have er : nD (List.replicate P []) = List.replicate (P : Int).toNat ([] : List D) := by unfold nD; rw [List.map_replicate]; rfl
  rw [er] at e
  unfold sNear
  have : sCons (sV 0) sNil (stN P ts .un .un .un .un) (0, 0) = some ([.int (P : Int)], (0, 0)) := rfl
  rw [this]
  show (if 2 < (stN P ts .un .un .un .un).length ∧ okR (P : Int) = true then (nFor (sItT (sV 1)) (qTup (qCons (qN 3) (qCons (qN 4) qNil))) (nThen [3, 4] (nFor (sR1 (sCons (sOp subD (sV 0) (sV 3)) sNil)) (qN 5) nearB)) ((stN P ts .un .un .un .un).set 2 .un) (List.replicate (P : Int).toNat []) (0, 0)).bind fun r => g (r.1.set 2 (.im (.list (r.2.1.map .list)))) r.2.2 else none) = _
  rw [if_pos ⟨by unfold stN; simp, oP⟩]
  have e' : nFor (sItT (sV 1)) (qTup (qCons (qN 3) (qCons (qN 4) qNil))) (nThen [3, 4] (nFor (sR1 (sCons (sOp subD (sV 0) (sV 3)) sNil)) (qN 5) nearB)) ((stN P ts .un .un .un .un).set 2 .un) (List.replicate (P : Int).toNat []) (0, 0) = some (stN P ts .un .un .un .un, nD nb, (0, 0)) := e
  rw [e']
  rfl
end
end X
namespace X
open PySem PySem.Spec L2 DL DM
/-- a loop that may end by a return -/
theorem forS_or {tg : D → Rho → Option Rho} {body : SS} {R : D → Dr → Prop} : ∀ {xs : List D} (I : Nat → Rho → Dr → Prop) {ρ : Rho} {c : Dr}, I 0 ρ c → (∀ i x ρ c, xs[i]? = some x → I i ρ c → ∃ ρ1, tg x ρ = some ρ1 ∧ ((∃ ρ2 c2, body ρ1 c = some (.nx, ρ2, c2) ∧ I (i + 1) ρ2 c2) ∨ ∃ d ρ2 c2, body ρ1 c = some (.rt d, ρ2, c2) ∧ R d c2)) →
    (∃ ρ' c', forS tg body xs ρ c = some (.nx, ρ', c') ∧ I xs.length ρ' c') ∨ ∃ d ρ' c', forS tg body xs ρ c = some (.rt d, ρ', c') ∧ R d c'
  | [], I, ρ, c, h0, _ => .inl ⟨ρ, c, rfl, h0⟩
  | x :: xs, I, ρ, c, h0, h => by
    obtain ⟨ρ1, e1, e2⟩ := h 0 x ρ c rfl h0
    have go : forS tg body (x :: xs) ρ c = (body ρ1 c).bind fun r => match r with
        | (.nx, ρ2, c2) => forS tg body xs ρ2 c2
        | (.ct, ρ2, c2) => forS tg body xs ρ2 c2
        | (.bk, ρ2, c2) => some (.nx, ρ2, c2)
        | (.rt d, ρ2, c2) => some (.rt d, ρ2, c2) := by
      show ((tg x ρ).bind fun ρ1 => _) = _
      rw [e1]; rfl
    rw [go]
    rcases e2 with ⟨ρ2, c2, e3, e4⟩ | ⟨d, ρ2, c2, e3, e4⟩
    · rw [e3]
      exact forS_or (xs := xs) (fun i => I (i + 1)) e4 fun i y ρ c e => h (i + 1) y ρ c e
    · rw [e3]
      exact .inr ⟨d, ρ2, c2, rfl, e4⟩
abbrev Ed (P : Nat) (ts : List TF) (p q : Nat) (m : Int) : Prop := EdN P ts ts.length 0 p q m
section
variable {P : Nat} {ts : List TF} {p q : Nat} {m : Int}
theorem Ed.lt (h : Ed P ts p q m) : p < P ∧ q < P := by
  obtain ⟨a, s, t, _, h2, _, ⟨rfl, rfl, _⟩ | ⟨rfl, rfl, _⟩⟩ := h <;> omega
theorem Ed.symm (h : Ed P ts p q m) : Ed P ts q p (-m) := by
  obtain ⟨a, s, t, h1, h2, h3, ⟨rfl, rfl, rfl⟩ | ⟨rfl, rfl, rfl⟩⟩ := h
  · exact ⟨a, p, t, h1, h2, h3, .inr ⟨rfl, rfl, by omega⟩⟩
  · exact ⟨a, q, t, h1, h2, h3, .inl ⟨rfl, rfl, by omega⟩⟩
theorem Ed.mod (h : Ed P ts p q m) : p % gcdL (ts.map (·.1)) = q % gcdL (ts.map (·.1)) := by
  obtain ⟨a, s, t, h1, h2, h3, e⟩ := h
  obtain ⟨k, hk⟩ := gcdL_dvd (mem_fs (List.mem_of_getElem? h1))
  generalize gcdL (ts.map (·.1)) = g at hk ⊢
  have key : (s + t.1) % g = s % g := by rw [hk, Nat.add_mul_mod_self_left]
  rcases e with ⟨rfl, rfl, _⟩ | ⟨rfl, rfl, _⟩
  · exact key.symm
  · exact key
theorem Ed.sol {y : Nat → Int} (hs : Sol P ts 1 y) (h : Ed P ts p q m) : y q - y p = m := by
  obtain ⟨a, s, t, h1, h2, h3, e⟩ := h
  have := sol_edge hs (List.mem_of_getElem? h1) h2
  rw [Int.one_mul] at this
  unfold dC at e
  rcases e with ⟨rfl, rfl, rfl⟩ | ⟨rfl, rfl, rfl⟩ <;> omega
end
abbrev FL := List (Option Int)
def fget (fo : FL) (p : Nat) : Option Int := fo.getD p none
theorem fget_set {fo : FL} {p q : Nat} {v : Option Int} (h : p < fo.length) : fget (fo.set p v) q = if q = p then v else fget fo q := by
  unfold fget
  rw [List.getD_eq_getElem?_getD, List.getElem?_set, List.getD_eq_getElem?_getD]
  by_cases e : p = q
  · subst e; rw [if_pos rfl, if_pos h, if_pos rfl]; rfl
  · rw [if_neg e, if_neg (fun z => e z.symm)]
def nones (fo : FL) : Nat := (fo.filter Option.isNone).length
theorem nones_set : ∀ {fo : FL} {p : Nat} {v : Int}, p < fo.length → fget fo p = none → nones (fo.set p (some v)) + 1 = nones fo
  | x :: fo, 0, v, _, h => by
    have : x = none := h
    subst this
    show (List.filter Option.isNone (some v :: fo)).length + 1 = (List.filter Option.isNone (none :: fo)).length
    rw [List.filter_cons_of_neg (by simp), List.filter_cons_of_pos (by simp)]; rfl
  | x :: fo, p + 1, v, hp, h => by
    have ih := nones_set (fo := fo) (p := p) (v := v) (by simpa using hp) h
    show (List.filter Option.isNone (x :: fo.set p (some v))).length + 1 = (List.filter Option.isNone (x :: fo)).length
    unfold nones at ih
    cases x with
    | none => rw [List.filter_cons_of_pos (by simp), List.filter_cons_of_pos (by simp), List.length_cons, List.length_cons]; omega
    | some w => rw [List.filter_cons_of_neg (by simp), List.filter_cons_of_neg (by simp)]; exact ih
theorem nones_le {fo : FL} : nones fo ≤ fo.length := List.length_filter_le _ _
section
variable {P : Nat} {ts : List TF}
/-- all that is found tells all that hangs on it -/
def Closed (P : Nat) (ts : List TF) (fo : FL) : Prop := ∀ p v, fget fo p = some v → ∀ q m, Ed P ts p q m → fget fo q = some (v + m)
structure TI (P : Nat) (ts : List TF) (k : Nat) (f0 fo : FL) (line : List Nat) (hx : Nat → Prop) (M : Nat) : Prop where
  len : fo.length = P
  lin : ∀ p ∈ line, p < P ∧ fget fo p ≠ none ∧ fget f0 p = none
  done : ∀ p v, fget fo p = some v → p ∉ line → ¬ hx p → ∀ q m, Ed P ts p q m → fget fo q = some (v + m)
  keep : ∀ p v, fget f0 p = some v → fget fo p = some v
  sol : ∀ y, Sol P ts 1 y → ∀ p v, fget fo p = some v → fget f0 p = none → y p - v = y k
  mod : ∀ p, fget fo p ≠ none → fget f0 p = none → p % gcdL (ts.map (·.1)) = k % gcdL (ts.map (·.1))
  ms : nones fo + line.length ≤ M
variable {k M : Nat} {f0 fo : FL} {line : List Nat} {h q : Nat} {v m : Int} {hx : Nat → Prop}
theorem TI.start (hk : k < f0.length) (hl : f0.length = P) (h0 : fget f0 k = none) (hc : Closed P ts f0) : TI P ts k f0 (f0.set k (some 0)) [k] (fun _ => False) P := by
  refine ⟨by rw [List.length_set]; exact hl, fun p hp => ?_, fun p v e hp _ q m ed => ?_, fun p v e => ?_, fun y hy p v e e0 => ?_, fun p e e0 => ?_, ?_⟩
  · rw [List.mem_singleton] at hp
    subst hp
    exact ⟨by omega, by rw [fget_set hk, if_pos rfl]; simp, h0⟩
  · rw [List.mem_singleton] at hp
    rw [fget_set hk, if_neg hp] at e
    have := hc p v e q m ed
    rw [fget_set hk, if_neg (fun z => by rw [z, h0] at this; cases this)]
    exact this
  · rw [fget_set hk, if_neg (fun z => by rw [z, h0] at e; cases e)]
    exact e
  · rw [fget_set hk] at e
    by_cases z : p = k
    · subst z; rw [if_pos rfl] at e; cases e; omega
    · rw [if_neg z, e0] at e; cases e
  · rw [fget_set hk] at e
    by_cases z : p = k
    · rw [z]
    · rw [if_neg z, e0] at e; exact absurd rfl e
  · have := nones_set (v := 0) hk h0
    have := nones_le (fo := f0)
    rw [List.length_singleton]; omega
theorem TI.pop (hT : TI P ts k f0 fo (line ++ [h]) (fun _ => False) (M + 1)) : TI P ts k f0 fo line (fun p => p = h) M :=
  ⟨hT.len, fun p hp => hT.lin p (List.mem_append_left _ hp), fun p v e hp hh => hT.done p v e (fun z => by
    rcases List.mem_append.mp z with w | w
    · exact hp w
    · exact hh (List.mem_singleton.mp w)) (fun z => z), hT.keep, hT.sol, hT.mod, by have := hT.ms; rw [List.length_append, List.length_singleton] at this; omega⟩
theorem TI.add (hT : TI P ts k f0 fo line (fun p => p = h) M) (hv : fget fo h = some v) (h0 : fget f0 h = none) (ed : Ed P ts h q m) (hq : fget fo q = none) : TI P ts k f0 (fo.set q (some (v + m))) (line ++ [q]) (fun p => p = h) M ∧ fget (fo.set q (some (v + m))) h = some v := by
  have ql : q < fo.length := by rw [hT.len]; exact ed.lt.2
  have q0 : fget f0 q = none := by
    cases e : fget f0 q with
    | none => rfl
    | some w => have := hT.keep q w e; rw [hq] at this; cases this
  have hne : h ≠ q := fun z => by rw [z, hq] at hv; cases hv
  refine ⟨⟨by rw [List.length_set]; exact hT.len, fun p hp => ?_, fun p w e hp hh q' m' ed' => ?_, fun p w e => ?_, fun y hy p w e e0 => ?_, fun p e e0 => ?_, ?_⟩, by rw [fget_set ql, if_neg hne]; exact hv⟩
  · rcases List.mem_append.mp hp with z | z
    · obtain ⟨a, b, c⟩ := hT.lin p z
      refine ⟨a, ?_, c⟩
      rw [fget_set ql]
      split
      · simp
      · exact b
    · rw [List.mem_singleton] at z
      subst z
      exact ⟨ed.lt.2, by rw [fget_set ql, if_pos rfl]; simp, q0⟩
  · have hpq : p ≠ q := fun z => hp (List.mem_append_right _ (List.mem_singleton.mpr z))
    rw [fget_set ql, if_neg hpq] at e
    have := hT.done p w e (fun z => hp (List.mem_append_left _ z)) hh q' m' ed'
    rw [fget_set ql, if_neg (fun z => by rw [z, hq] at this; cases this)]
    exact this
  · rw [fget_set ql, if_neg (fun z => by rw [z, q0] at e; cases e)]
    exact hT.keep p w e
  · rw [fget_set ql] at e
    by_cases z : p = q
    · subst z
      rw [if_pos rfl] at e; cases e
      have h1 := ed.sol hy
      have h2 := hT.sol y hy h v hv h0
      omega
    · rw [if_neg z] at e
      exact hT.sol y hy p w e e0
  · rw [fget_set ql] at e
    by_cases z : p = q
    · subst z
      rw [← ed.mod]
      exact hT.mod h (by rw [hv]; simp) h0
    · rw [if_neg z] at e
      exact hT.mod p e e0
  · have := nones_set (v := v + m) ql hq
    have := hT.ms
    rw [List.length_append, List.length_singleton]; omega
/-- what does not agree: no row -/
theorem TI.clash (hT : TI P ts k f0 fo line hx M) (hc : Closed P ts f0) (hv : fget fo h = some v) (h0 : fget f0 h = none) (ed : Ed P ts h q m) {u : Int} (hq : fget fo q = some u) (hu : u ≠ v + m) : ¬ ∃ y, Sol P ts 1 y := by
  rintro ⟨y, hy⟩
  have q0 : fget f0 q = none := by
    cases e : fget f0 q with
    | none => rfl
    | some w => have := hc q w e h (-m) ed.symm; rw [h0] at this; cases this
  have h1 := ed.sol hy
  have h2 := hT.sol y hy h v hv h0
  have h3 := hT.sol y hy q u hq q0
  omega
theorem TI.fin (hT : TI P ts k f0 fo line (fun p => p = h) M) (hv : fget fo h = some v) (hall : ∀ q m, Ed P ts h q m → fget fo q = some (v + m)) : TI P ts k f0 fo line (fun _ => False) M :=
  ⟨hT.len, hT.lin, fun p w e hp _ q m ed => by
    by_cases z : p = h
    · subst z
      rw [hv] at e; cases e
      exact hall q m ed
    · exact hT.done p w e hp z q m ed, hT.keep, hT.sol, hT.mod, hT.ms⟩
/-- behind all starts below k -/
structure OI (P : Nat) (ts : List TF) (k : Nat) (fo : FL) : Prop where
  len : fo.length = P
  cl : Closed P ts fo
  all : ∀ p, p < k → fget fo p ≠ none
  zero : ∀ r, r < gcdL (ts.map (·.1)) → r < k → fget fo r = some 0
  mod : ∀ p, fget fo p ≠ none → p % gcdL (ts.map (·.1)) < k
theorem OI.start : OI P ts 0 (List.replicate P none) := by
  have e : ∀ p, fget (List.replicate P (none : Option Int)) p = none := fun p => by
    unfold fget
    rw [List.getD_eq_getElem?_getD, List.getElem?_replicate]
    split <;> rfl
  exact ⟨List.length_replicate, (fun p v h => by rw [e] at h; cases h), (fun p h => absurd h (by omega)), (fun r _ h => absurd h (by omega)), fun p h => absurd (e p) h⟩
theorem OI.skip (h : OI P ts k fo) (hk : fget fo k ≠ none) : OI P ts (k + 1) fo :=
  ⟨h.len, h.cl, fun p hp => by
    by_cases e : p = k
    · rw [e]; exact hk
    · exact h.all p (by omega), fun r hr hk' => by
    by_cases e : r = k
    · subst e
      have := h.mod r hk
      rw [Nat.mod_eq_of_lt hr] at this
      omega
    · exact h.zero r hr (by omega), fun p hp => by have := h.mod p hp; omega⟩
theorem OI.next (h : OI P ts k f0) (hT : TI P ts k f0 fo [] (fun _ => False) M) (hk : fget fo k = some 0) : OI P ts (k + 1) fo := by
  refine ⟨hT.len, fun p v e => hT.done p v e (by simp) (fun z => z), fun p hp => ?_, fun r hr hk' => ?_, fun p hp => ?_⟩
  · by_cases e : p = k
    · rw [e, hk]; simp
    · obtain ⟨w, hw⟩ := Option.ne_none_iff_exists'.mp (h.all p (by omega))
      rw [hT.keep p w hw]; simp
  · by_cases e : r = k
    · rw [e]; exact hk
    · exact hT.keep r 0 (h.zero r hr (by omega))
  · cases e : fget f0 p with
    | some w =>
      have := h.mod p (by rw [e]; simp)
      omega
    | none =>
      rw [hT.mod p hp e]
      have := Nat.mod_le k (gcdL (ts.map (·.1)))
      omega
end
end X
namespace X
open PySem PySem.Spec L2 DL DM
def oD : Option Int → D
  | none => .none
  | some v => .int v
def foD (fo : FL) : List D := fo.map oD
theorem foD_len {fo : FL} : (foD fo).length = fo.length := List.length_map _
theorem foD_at {fo : FL} {p : Nat} (h : p < fo.length) : atI (foD fo) (p : Int) = some (oD (fget fo p)) := by
  refine atI_nat ?_
  unfold foD fget
  rw [List.getElem?_map, List.getElem?_eq_getElem h]
  simp [List.getD, h]
theorem foD_set {fo : FL} {p : Nat} {v : Int} : (foD fo).set p (.int v) = foD (fo.set p (some v)) := by
  unfold foD
  rw [List.map_set]; rfl
def lnD (line : List Nat) : List D := line.map fun x : Nat => PyData.int (x : Int)
theorem lnD_app {line : List Nat} {q : Nat} : lnD line ++ [.int (q : Int)] = lnD (line ++ [q]) := by unfold lnD; rw [List.map_append]; rfl
theorem lnD_len {line : List Nat} : (lnD line).length = line.length := List.length_map _
section
variable {P : Nat} {ts : List TF}
def stF (P : Nat) (ts : List TF) (nb : NL) (fo : FL) (s8 s9 s10 s11 s6 : Sl) : Rho := [.im (.int (P : Int)), .im (tsD ts), .im (.list ((nD nb).map .list)), .un, .un, .un, s6, .ol (foD fo), s8, s9, s10, s11, .un]
abbrev nbB : SS := sThen [6, 11] (sIfS (sB (sOp isND (sIxO 7 (sV 11)) (sC .none)))
 (sSeq (sSetI 7 (sV 11) (sOp addD (sIxO 7 (sV 10)) (sV 6)))
 (sApp 9 (sV 11)))
 (sIfS (sB (sOp neD (sIxO 7 (sV 11)) (sOp addD (sIxO 7 (sV 10)) (sV 6))))
 (sRet (sC .none))
 sNext))
variable {nb : NL} {fo : FL} {line : List Nat} {k h q : Nat} {v m : Int}
theorem nb_none (hl : fo.length = P) (hq : q < P) (hh : h < P) (hv : fget fo h = some v) (hn : fget fo q = none) (hf : line.length ≤ 1000) : nbB (stF P ts nb fo (.im (.int (k : Int))) (.ol (lnD line)) (.im (.int (h : Int))) (.im (.int (q : Int))) (.im (.int m))) (0, 0) = some (.nx, stF P ts nb (fo.set q (some (v + m))) (.im (.int (k : Int))) (.ol (lnD (line ++ [q]))) (.im (.int (h : Int))) .un .un, (0, 0)) := by
  have a1 := foD_at (fo := fo) (p := q) (by omega)
  have a2 := foD_at (fo := fo) (p := h) (by omega)
  rw [hn] at a1
  rw [hv] at a2
  have f1 : few (lnD line).length = true := few_of (by rw [lnD_len]; omega)
  have ix : ixN (foD fo).length (q : Int) = some q := ixN_nat (by rw [foD_len]; omega)
  refine then_run (ρ1 := stF P ts nb (fo.set q (some (v + m))) (.im (.int (k : Int))) (.ol (lnD (line ++ [q]))) (.im (.int (h : Int))) (.im (.int (q : Int))) (.im (.int m))) (DL.ifT (c1 := (0, 0)) ?_ (seq_run (ρ1 := stF P ts nb (fo.set q (some (v + m))) (.im (.int (k : Int))) (.ol (lnD line)) (.im (.int (h : Int))) (.im (.int (q : Int))) (.im (.int m))) (c1 := (0, 0)) ?_ ?_)) rfl
  · unfold stF
    simp only [ev_sB, ev_sOp, ev_sIxO, ev_sV, ev_sC, List.getElem?_cons_succ, List.getElem?_cons_zero, Option.bind_some, a1, oD, ev_isN]
  · unfold stF
    simp only [ev_sSetI, ev_sOp, ev_sIxO, ev_sV, List.getElem?_cons_succ, List.getElem?_cons_zero, Option.bind_some, a2, oD, ev_addII, ix, foD_set, List.set_cons_succ, List.set_cons_zero]
  · unfold stF
    simp only [ev_sApp, ev_sV, List.getElem?_cons_succ, List.getElem?_cons_zero, Option.bind_some, f1, if_true, lnD_app, List.set_cons_succ, List.set_cons_zero]
theorem nb_same (hl : fo.length = P) (hq : q < P) (hh : h < P) (hv : fget fo h = some v) (hn : fget fo q = some (v + m)) : nbB (stF P ts nb fo (.im (.int (k : Int))) (.ol (lnD line)) (.im (.int (h : Int))) (.im (.int (q : Int))) (.im (.int m))) (0, 0) = some (.nx, stF P ts nb fo (.im (.int (k : Int))) (.ol (lnD line)) (.im (.int (h : Int))) .un .un, (0, 0)) := by
  have a1 := foD_at (fo := fo) (p := q) (by omega)
  have a2 := foD_at (fo := fo) (p := h) (by omega)
  rw [hn] at a1
  rw [hv] at a2
  refine then_run (ρ1 := stF P ts nb fo (.im (.int (k : Int))) (.ol (lnD line)) (.im (.int (h : Int))) (.im (.int (q : Int))) (.im (.int m))) (DL.ifF (c1 := (0, 0)) ?_ (DL.ifF (c1 := (0, 0)) ?_ rfl)) rfl
  · unfold stF
    simp only [ev_sB, ev_sOp, ev_sIxO, ev_sV, ev_sC, List.getElem?_cons_succ, List.getElem?_cons_zero, Option.bind_some, a1, oD, ev_isN]
  · unfold stF
    simp only [ev_sB, ev_sOp, ev_sIxO, ev_sV, List.getElem?_cons_succ, List.getElem?_cons_zero, Option.bind_some, a1, a2, oD, ev_addII, neD_int, decide_true, Bool.not_true]
theorem nb_diff (hl : fo.length = P) (hq : q < P) (hh : h < P) {u : Int} (hv : fget fo h = some v) (hn : fget fo q = some u) (hu : u ≠ v + m) : ∃ ρ, nbB (stF P ts nb fo (.im (.int (k : Int))) (.ol (lnD line)) (.im (.int (h : Int))) (.im (.int (q : Int))) (.im (.int m))) (0, 0) = some (.rt .none, ρ, (0, 0)) := by
  have a1 := foD_at (fo := fo) (p := q) (by omega)
  have a2 := foD_at (fo := fo) (p := h) (by omega)
  rw [hn] at a1
  rw [hv] at a2
  refine ⟨_, then_rt (DL.ifF (c1 := (0, 0)) ?_ (DL.ifT (c1 := (0, 0)) ?_ rfl))⟩
  · unfold stF
    simp only [ev_sB, ev_sOp, ev_sIxO, ev_sV, ev_sC, List.getElem?_cons_succ, List.getElem?_cons_zero, Option.bind_some, a1, oD, ev_isN]
  · unfold stF
    simp only [ev_sB, ev_sOp, ev_sIxO, ev_sV, List.getElem?_cons_succ, List.getElem?_cons_zero, Option.bind_some, a1, a2, oD, ev_addII, neD_int, decide_eq_false hu, Bool.not_false]
abbrev duoN : D → Rho → Option Rho := qTup (qCons (qN 11) (qCons (qN 6) qNil))
abbrev popB : SS := sThen [10] (sSeq (sPopTo 10 9) (sFor (sItL (sOp ixD (sV 2) (sV 10))) duoN nbB))
variable {M n : Nat} {f0 : FL}
abbrev NoRow (P : Nat) (ts : List TF) : Prop := ¬ ∃ y, Sol P ts 1 y
theorem pop_run (hP : P ≤ 24) (h3 : ts.length ≤ 3) (hnb : NB P ts ts.length 0 nb) (hc : Closed P ts f0) (hM : M ≤ 100) (hT : TI P ts k f0 fo (line ++ [h]) (fun _ => False) (M + 1)) :
    (∃ fo' line', popB (stF P ts nb fo (.im (.int (k : Int))) (.ol (lnD (line ++ [h]))) .un .un .un) (0, 0) = some (.nx, stF P ts nb fo' (.im (.int (k : Int))) (.ol (lnD line')) .un .un .un, (0, 0)) ∧ TI P ts k f0 fo' line' (fun _ => False) M ∧ (fget fo k = some 0 → fget fo' k = some 0)) ∨
    (∃ ρ, popB (stF P ts nb fo (.im (.int (k : Int))) (.ol (lnD (line ++ [h]))) .un .un .un) (0, 0) = some (.rt .none, ρ, (0, 0)) ∧ NoRow P ts) := by
  obtain ⟨hh, hf, h0⟩ := hT.lin h (List.mem_append_right _ List.mem_cons_self)
  obtain ⟨v, hv⟩ := Option.ne_none_iff_exists'.mp hf
  have hpop : sPopTo 10 9 (stF P ts nb fo (.im (.int (k : Int))) (.ol (lnD (line ++ [h]))) .un .un .un) (0, 0) = some (.nx, stF P ts nb fo (.im (.int (k : Int))) (.ol (lnD line)) (.im (.int (h : Int))) .un .un, (0, 0)) := by
    have e1 : (lnD (line ++ [h])).length - 1 = (lnD line).length := by rw [lnD_len, lnD_len, List.length_append, List.length_singleton]; omega
    have e2 : (lnD (line ++ [h]))[(lnD line).length]? = some (.int (h : Int)) := by
      rw [← lnD_app, List.getElem?_append_right (Nat.le_refl _), Nat.sub_self]; rfl
    have e3 : (lnD (line ++ [h])).take (lnD line).length = lnD line := by rw [← lnD_app, List.take_left']; rfl
    unfold sPopTo stF
    simp only [show (9 : Nat) = 10 ↔ False from by decide, if_false, List.getElem?_cons_succ, List.getElem?_cons_zero, e1, e2, e3, List.set_cons_succ, List.set_cons_zero]
  have hat : atI ((nD nb).map PyData.list) (h : Int) = some (.list ((nb.getD h []).map prD)) := by
    refine atI_nat ?_
    rw [List.getElem?_map, nD_get (by rw [hnb.len]; exact hh)]; rfl
  have lp := forS_or (tg := duoN) (body := nbB) (R := fun d c => d = .none ∧ c = (0, 0) ∧ NoRow P ts) (xs := (nb.getD h []).map prD) (fun i ρ c => c = (0, 0) ∧ ∃ fo' line', ρ = stF P ts nb fo' (.im (.int (k : Int))) (.ol (lnD line')) (.im (.int (h : Int))) .un .un ∧ TI P ts k f0 fo' line' (fun p => p = h) M ∧ fget fo' h = some v ∧ (∀ p w, fget fo p = some w → fget fo' p = some w) ∧ ∀ a q m, a < i → (nb.getD h [])[a]? = some (q, m) → fget fo' q = some (v + m)) (ρ := stF P ts nb fo (.im (.int (k : Int))) (.ol (lnD line)) (.im (.int (h : Int))) .un .un) (c := (0, 0)) ⟨rfl, fo, line, rfl, hT.pop, hv, fun p w e => e, fun a q m ha => absurd ha (by omega)⟩ (fun i x ρ c hx hI => by
    obtain ⟨rfl, fo', line', rfl, hT', hv', hk', hp'⟩ := hI
    rw [List.getElem?_map] at hx
    obtain ⟨⟨q, m⟩, hqm, rfl⟩ := Option.map_eq_some_iff.mp hx
    have ed : Ed P ts h q m := (hnb.mem h q m).mp (List.mem_of_getElem? hqm)
    have hq := ed.lt.2
    refine ⟨_, rfl, ?_⟩
    have grow : ∀ {fo2 : FL}, (∀ p w, fget fo' p = some w → fget fo2 p = some w) → fget fo2 q = some (v + m) → ∀ a q' m', a < i + 1 → (nb.getD h [])[a]? = some (q', m') → fget fo2 q' = some (v + m') := fun {fo2} hg hq2 a q' m' ha e => by
      by_cases z : a = i
      · subst z; rw [hqm] at e; cases e; exact hq2
      · exact hg _ _ (hp' a q' m' (by omega) e)
    cases e : fget fo' q with
    | none =>
      obtain ⟨hT2, hv2⟩ := hT'.add hv' h0 ed e
      have hml := hT'.ms
      have hg : ∀ p w, fget fo' p = some w → fget (fo'.set q (some (v + m))) p = some w := fun p w hw => by
        rw [fget_set (by rw [hT'.len]; exact hq), if_neg (fun z => by rw [z, e] at hw; cases hw)]; exact hw
      exact .inl ⟨_, _, nb_none hT'.len hq hh hv' e (by omega), rfl, _, _, rfl, hT2, hv2, fun p w hw => hg _ _ (hk' p w hw), grow hg (by rw [fget_set (by rw [hT'.len]; exact hq), if_pos rfl])⟩
    | some u =>
      by_cases hu : u = v + m
      · subst hu
        exact .inl ⟨_, _, nb_same hT'.len hq hh hv' e, rfl, _, _, rfl, hT', hv', hk', grow (fun p w hw => hw) e⟩
      · obtain ⟨ρ2, e2⟩ := nb_diff (ts := ts) (nb := nb) (line := line') (k := k) hT'.len hq hh hv' e hu
        exact .inr ⟨_, ρ2, _, e2, rfl, rfl, hT'.clash hc hv' h0 ed e hu⟩)
  have go : ∀ r, forS duoN nbB ((nb.getD h []).map prD) (stF P ts nb fo (.im (.int (k : Int))) (.ol (lnD line)) (.im (.int (h : Int))) .un .un) (0, 0) = some r → sFor (sItL (sOp ixD (sV 2) (sV 10))) duoN nbB (stF P ts nb fo (.im (.int (k : Int))) (.ol (lnD line)) (.im (.int (h : Int))) .un .un) (0, 0) = some r := fun r e => by
    unfold sFor
    have : sItL (sOp ixD (sV 2) (sV 10)) (stF P ts nb fo (.im (.int (k : Int))) (.ol (lnD line)) (.im (.int (h : Int))) .un .un) (0, 0) = some ((nb.getD h []).map prD, (0, 0)) := by
      unfold stF
      simp only [ev_sItL, ev_sOp, ev_sV, List.getElem?_cons_succ, List.getElem?_cons_zero, Option.bind_some, ev_ixL, hat]
    rw [this]
    exact e
  rcases lp with ⟨ρ', c', e1, rfl, fo', line', rfl, hT', hv', hk', hp'⟩ | ⟨d, ρ', c', e1, rfl, rfl, hno⟩
  · refine .inl ⟨fo', line', then_run (seq_run hpop (go _ e1)) rfl, hT'.fin hv' fun q m ed => ?_, fun e => hk' k 0 e⟩
    obtain ⟨a, ha⟩ := List.getElem?_of_mem ((hnb.mem h q m).mpr ed)
    exact hp' a q m (by rw [List.length_map]; exact (List.getElem?_eq_some_iff.mp ha).1) ha
  · exact .inr ⟨ρ', then_rt (seq_run hpop (go _ e1)), hno⟩
end
end X
namespace X
open PySem PySem.Spec L2 DL DM
section
variable {P : Nat} {ts : List TF} {nb : NL} {f0 : FL} {k : Nat}
abbrev lineT : SB := sFlT 9 (sB (sOp neD (sV 9) (sLst sNil)))
theorem line_test {fo : FL} {line : List Nat} : lineT (stF P ts nb fo (.im (.int (k : Int))) (.ol (lnD line)) .un .un .un) (0, 0) = some (!decide (line = []), (0, 0)) := by
  have f0 : few 0 = true := by decide
  have e : neD (.list (lnD line)) (.list []) = some (.bool (!decide (line = []))) := neD_b (n := 1) (.list fun d hd => by
    obtain ⟨x, _, rfl⟩ := List.mem_map.mp hd
    exact pln_int) (Pln.list fun d hd => by cases hd) (by decide) (by
    rw [decide_eq_true_eq]
    constructor
    · rintro rfl; rfl
    · intro e
      injection e with e
      exact List.map_eq_nil_iff.mp e)
  unfold stF
  simp only [ev_sFlT, ev_sB, ev_sOp, ev_sV, ev_sLst, ev_sNil, List.getElem?_cons_succ, List.getElem?_cons_zero, List.set_cons_succ, List.set_cons_zero, Option.bind_some, List.length_nil, f0, if_true, e]
theorem line_while (hP : P ≤ 24) (h3 : ts.length ≤ 3) (hnb : NB P ts ts.length 0 nb) (hc : Closed P ts f0) : ∀ (n M : Nat) (fo : FL) (line : List Nat), M < n → M ≤ 100 → TI P ts k f0 fo line (fun _ => False) M →
    (∃ fo', whileS lineT popB n (stF P ts nb fo (.im (.int (k : Int))) (.ol (lnD line)) .un .un .un) (0, 0) = some (.nx, stF P ts nb fo' (.im (.int (k : Int))) (.ol []) .un .un .un, (0, 0)) ∧ TI P ts k f0 fo' [] (fun _ => False) M ∧ (fget fo k = some 0 → fget fo' k = some 0)) ∨
    (∃ ρ, whileS lineT popB n (stF P ts nb fo (.im (.int (k : Int))) (.ol (lnD line)) .un .un .un) (0, 0) = some (.rt .none, ρ, (0, 0)) ∧ NoRow P ts)
  | 0, M, fo, line, h, _, _ => absurd h (by omega)
  | n + 1, M, fo, line, h, hM, hT => by
    have ht := line_test (P := P) (ts := ts) (nb := nb) (k := k) (fo := fo) (line := line)
    have step : whileS lineT popB (n + 1) (stF P ts nb fo (.im (.int (k : Int))) (.ol (lnD line)) .un .un .un) (0, 0) = if (!decide (line = [])) = true then (popB (stF P ts nb fo (.im (.int (k : Int))) (.ol (lnD line)) .un .un .un) (0, 0)).bind fun r => match r with
        | (.nx, ρ2, c2) => whileS lineT popB n ρ2 c2
        | (.ct, ρ2, c2) => whileS lineT popB n ρ2 c2
        | (.bk, ρ2, c2) => some (.nx, ρ2, c2)
        | (.rt d, ρ2, c2) => some (.rt d, ρ2, c2)
        else some (.nx, stF P ts nb fo (.im (.int (k : Int))) (.ol (lnD line)) .un .un .un, (0, 0)) := by
      show ((lineT (stF P ts nb fo (.im (.int (k : Int))) (.ol (lnD line)) .un .un .un) (0, 0)).bind fun p => _) = _
      rw [ht]; rfl
    rw [step]
    by_cases hl : line = []
    · subst hl
      rw [decide_eq_true rfl, Bool.not_true, if_neg (by decide)]
      exact .inl ⟨fo, rfl, hT, id⟩
    · rw [decide_eq_false hl, Bool.not_false, if_pos rfl]
      have hlast := List.dropLast_concat_getLast hl
      rw [← hlast] at hT ⊢
      generalize line.dropLast = l at hT ⊢
      generalize line.getLast hl = x at hT ⊢
      have hm := hT.ms
      rw [List.length_append, List.length_singleton] at hm
      obtain ⟨M, rfl⟩ : ∃ M', M = M' + 1 := ⟨M - 1, by omega⟩
      rcases pop_run hP h3 hnb hc (by omega) hT with ⟨fo', line', e, hT', hk⟩ | ⟨ρ, e, hno⟩
      · rw [e]
        show (∃ fo2, whileS lineT popB n (stF P ts nb fo' (.im (.int (k : Int))) (.ol (lnD line')) .un .un .un) (0, 0) = _ ∧ _) ∨ (∃ ρ, whileS lineT popB n (stF P ts nb fo' (.im (.int (k : Int))) (.ol (lnD line')) .un .un .un) (0, 0) = _ ∧ _)
        rcases line_while hP h3 hnb hc n M fo' line' (by omega) (by omega) hT' with ⟨fo2, e2, hT2, hk2⟩ | ⟨ρ, e2, hno⟩
        · exact .inl ⟨fo2, e2, ⟨hT2.len, hT2.lin, hT2.done, hT2.keep, hT2.sol, hT2.mod, by have := hT2.ms; omega⟩, fun z => hk2 (hk z)⟩
        · exact .inr ⟨ρ, e2, hno⟩
      · rw [e]
        exact .inr ⟨ρ, rfl, hno⟩
abbrev startB : SS := sThen [8] (sIfS (sB (sOp isND (sIxO 7 (sV 8)) (sC .none)))
 (sThen [9] (sSeq (sSetI 7 (sV 8) (sC (.int 0)))
 (sSeq (sAsgL (sDispL (sCons (sV 8) sNil)) 9)
 (whileS lineT popB 100))))
 sNext)
theorem start_run (hP : P ≤ 24) (h3 : ts.length ≤ 3) (hnb : NB P ts ts.length 0 nb) (hO : OI P ts k f0) (hk : k < P) :
    (∃ fo', startB (stF P ts nb f0 (.im (.int (k : Int))) .un .un .un .un) (0, 0) = some (.nx, stF P ts nb fo' .un .un .un .un .un, (0, 0)) ∧ OI P ts (k + 1) fo') ∨
    (∃ ρ, startB (stF P ts nb f0 (.im (.int (k : Int))) .un .un .un .un) (0, 0) = some (.rt .none, ρ, (0, 0)) ∧ NoRow P ts) := by
  have a1 := foD_at (fo := f0) (p := k) (by rw [hO.len]; exact hk)
  have f1 : few 1 = true := by decide
  have test : sB (sOp isND (sIxO 7 (sV 8)) (sC .none)) (stF P ts nb f0 (.im (.int (k : Int))) .un .un .un .un) (0, 0) = some ((match oD (fget f0 k) with | .none => true | _ => false), (0, 0)) := by
    unfold stF
    simp only [ev_sB, ev_sOp, ev_sIxO, ev_sV, ev_sC, List.getElem?_cons_succ, List.getElem?_cons_zero, Option.bind_some, a1, ev_isN]
    all_goals cases fget f0 k <;> rfl
  cases e : fget f0 k with
  | some v =>
    rw [e] at test
    refine .inl ⟨f0, then_run (DL.ifF test rfl) rfl, hO.skip (by rw [e]; simp)⟩
  | none =>
    rw [e] at test
    have hT := TI.start (P := P) (ts := ts) (by rw [hO.len]; exact hk) hO.len e hO.cl
    have ix : ixN (foD f0).length (k : Int) = some k := ixN_nat (by rw [foD_len, hO.len]; exact hk)
    have s1 : sSetI 7 (sV 8) (sC (.int 0)) (stF P ts nb f0 (.im (.int (k : Int))) .un .un .un .un) (0, 0) = some (.nx, stF P ts nb (f0.set k (some 0)) (.im (.int (k : Int))) .un .un .un .un, (0, 0)) := by
      unfold stF
      simp only [ev_sSetI, ev_sV, ev_sC, List.getElem?_cons_succ, List.getElem?_cons_zero, Option.bind_some, ix, foD_set, List.set_cons_succ, List.set_cons_zero]
    have s2 : sAsgL (sDispL (sCons (sV 8) sNil)) 9 (stF P ts nb (f0.set k (some 0)) (.im (.int (k : Int))) .un .un .un .un) (0, 0) = some (.nx, stF P ts nb (f0.set k (some 0)) (.im (.int (k : Int))) (.ol (lnD [k])) .un .un .un, (0, 0)) := by
      unfold stF
      simp only [ev_sAsgL, ev_sDispL, ev_sCons, ev_sNil, ev_sV, List.getElem?_cons_succ, List.getElem?_cons_zero, Option.bind_some, List.length_cons, List.length_nil, Nat.zero_add, f1, if_true, List.set_cons_succ, List.set_cons_zero]
      rfl
    have k0 : fget (f0.set k (some 0)) k = some 0 := by rw [fget_set (by rw [hO.len]; exact hk), if_pos rfl]
    rcases line_while hP h3 hnb hO.cl 100 P _ _ (by omega) (by omega) hT with ⟨fo', e2, hT', hk2⟩ | ⟨ρ, e2, hno⟩
    · exact .inl ⟨fo', then_run (DL.ifT test (then_run (seq_run s1 (seq_run s2 e2)) rfl)) rfl, hO.next hT' (hk2 k0)⟩
    · exact .inr ⟨ρ, then_rt (DL.ifT test (then_rt (seq_run s1 (seq_run s2 e2)))), hno⟩
theorem F_ties_eq (hT : TOk P ts) : (∃ L : List Int, F_ties [.int (P : Int), tsD ts] = some (.list (iL L)) ∧ L.length = P ∧ ((∃ t ∈ ts, t.1 ≤ P) → Pot P ts (gI L))) ∨ (F_ties [.int (P : Int), tsD ts] = some .none ∧ NoRow P ts) := by
  have hT0 := hT
  obtain ⟨hP, h3, hTs⟩ := hT
  have oP : okR (P : Int) = true := okR_of (by omega) (by omega)
  have f1 : few 1 = true := by decide
  obtain ⟨nb, hnb, en⟩ := near_ok hT0 (g := (sSeq (sAsgL (sRepL (sDispL (sCons (sC .none) sNil)) (sV 0)) 7)
    (sSeq (sFor (sR1 (sCons (sV 0) sNil)) (qN 8) startB)
    (sFrz 7 (sRet (sV 7))))))
  have s1 : sAsgL (sRepL (sDispL (sCons (sC .none) sNil)) (sV 0)) 7 ((stN P ts .un .un .un .un).set 2 (.im (.list ((nD nb).map .list)))) (0, 0) = some (.nx, stF P ts nb (List.replicate P none) .un .un .un .un .un, (0, 0)) := by
    unfold stN
    simp only [ev_sAsgL, ev_sRepL, ev_sDispL, ev_sCons, ev_sNil, ev_sC, ev_sV, List.set_cons_succ, List.set_cons_zero, List.getElem?_cons_succ, List.getElem?_cons_zero, Option.bind_some, List.length_cons, List.length_nil, Nat.zero_add, f1, if_true, Int.toNat_natCast]
    rw [if_pos ⟨trivial, by omega, by omega, by omega⟩, List.flatten_replicate_singleton]
    unfold stF foD
    rw [List.map_replicate]; rfl
  have lp := forS_or (tg := qN 8) (body := startB) (R := fun d c => d = .none ∧ c = (0, 0) ∧ NoRow P ts) (xs := rngL 0 P) (fun k ρ c => c = (0, 0) ∧ ∃ fo, ρ = stF P ts nb fo .un .un .un .un .un ∧ OI P ts k fo) (ρ := stF P ts nb (List.replicate P none) .un .un .un .un .un) (c := (0, 0)) ⟨rfl, _, rfl, OI.start⟩ (fun k x ρ c hx hI => by
    obtain ⟨rfl, fo, rfl, hO⟩ := hI
    obtain ⟨hk, rfl⟩ := rngL_lt hx
    rw [show (0 : Int) + (k : Int) = (k : Int) by omega]
    refine ⟨_, rfl, ?_⟩
    rcases start_run hP h3 hnb hO hk with ⟨fo', e, hO'⟩ | ⟨ρ, e, hno⟩
    · exact .inl ⟨_, _, e, rfl, fo', rfl, hO'⟩
    · exact .inr ⟨_, ρ, _, e, rfl, rfl, hno⟩)
  have go : ∀ r, forS (qN 8) startB (rngL 0 P) (stF P ts nb (List.replicate P none) .un .un .un .un .un) (0, 0) = some r → sFor (sR1 (sCons (sV 0) sNil)) (qN 8) startB (stF P ts nb (List.replicate P none) .un .un .un .un .un) (0, 0) = some r := fun r e => by
    unfold sFor
    have : sR1 (sCons (sV 0) sNil) (stF P ts nb (List.replicate P none) .un .un .un .un .un) (0, 0) = some (rngL 0 P, (0, 0)) := by
      unfold stF
      simp only [ev_sR1, ev_sCons, ev_sNil, ev_sV, List.getElem?_cons_succ, List.getElem?_cons_zero, Option.bind_some, oP, if_true, Int.toNat_natCast]
    rw [this]
    exact e
  rw [rngL_len] at lp
  have run : ∀ {d : D}, Runs (sSeq (sAsgL (sRepL (sDispL (sCons (sC .none) sNil)) (sV 0)) 7)
    (sSeq (sFor (sR1 (sCons (sV 0) sNil)) (qN 8) startB)
    (sFrz 7 (sRet (sV 7))))) ((stN P ts .un .un .un .un).set 2 (.im (.list ((nD nb).map .list)))) (0, 0) (IsRt d) → F_ties [.int (P : Int), tsD ts] = some d := fun {d} h => by
    refine bodyP_of rfl ?_
    obtain ⟨r, e1, e2⟩ := h
    exact ⟨r, en.trans e1, e2⟩
  rcases lp with ⟨ρ', c', e1, rfl, fo, rfl, hO⟩ | ⟨d, ρ', c', e1, rfl, rfl, hno⟩
  · refine .inl ⟨fo.map fun o => o.getD 0, run ?_, by rw [List.length_map, hO.len], fun hne => ?_⟩
    · have e3 : foD fo = iL (fo.map fun o => o.getD 0) := by
        unfold foD iL
        rw [List.map_map]
        refine List.map_congr_left fun o ho => ?_
        obtain ⟨p, hp⟩ := List.getElem?_of_mem ho
        have hpl := (List.getElem?_eq_some_iff.mp hp).1
        have := hO.all p (by rw [← hO.len]; exact hpl)
        unfold fget at this
        rw [List.getD_eq_getElem?_getD, hp] at this
        cases o with
        | none => exact absurd rfl this
        | some v => rfl
      refine .seq s1 (.seq (go _ e1) (.frz (ds := foD fo) rfl (.ret (d := .list (iL (fo.map fun o => o.getD 0))) (c1 := (0, 0)) ?_ rfl)))
      unfold stF
      simp only [ev_sV, List.set_cons_succ, List.set_cons_zero, List.getElem?_cons_succ, List.getElem?_cons_zero, e3]
    · have gv : ∀ p v, fget fo p = some v → gI (fo.map fun o => o.getD 0) p = v := fun p v e => by
        unfold gI fget at *
        rw [List.getD_eq_getElem?_getD] at e ⊢
        rw [List.getElem?_map]
        cases q : fo[p]? with
        | none => rw [q] at e; cases e
        | some o => rw [q] at e; have e : o = some v := e; subst e; rfl
      refine ⟨fun t ht s hs => ?_, fun r hr => ?_⟩
      · obtain ⟨a, ha⟩ := List.getElem?_of_mem ht
        obtain ⟨v, hv⟩ := Option.ne_none_iff_exists'.mp (hO.all s (by omega))
        have := hO.cl s v hv (s + t.1) (dC t s) ⟨a, s, t, ha, hs, .inl (List.getElem?_eq_some_iff.mp ha).1, .inl ⟨rfl, rfl, rfl⟩⟩
        rw [gv _ _ this, gv _ _ hv]
        unfold dC; omega
      · obtain ⟨t, ht, htP⟩ := hne
        have h1 := (hTs t ht).1
        have := Nat.le_of_dvd (by omega) (gcdL_dvd (mem_fs ht))
        exact gv r 0 (hO.zero r hr (by omega))
  · exact .inr ⟨run ⟨_, seq_run s1 (seq_rt (go _ e1)), rfl⟩, hno⟩
end
end X
namespace X
open PySem PySem.Spec L2 DL DM
/-- the counts of the one frame -/
def cOne (P g : Nat) (x : Int) (L : List Int) : List Int := (List.range (P - g + 1)).map (cnt g (oneRow g x (gI L)))
def oneD (P g : Nat) (x : Int) (L : List Int) : D := .tuple [.int (g : Int), .tuple (iL (cOne P g x L))]
theorem gcd_fold {a b : Nat} {l : List Nat} : (a :: l).foldl Nat.gcd 0 = (a :: l).foldl Nat.gcd a := by
  show l.foldl Nat.gcd (Nat.gcd 0 a) = l.foldl Nat.gcd (Nat.gcd a a)
  rw [Nat.gcd_zero_left, Nat.gcd_self]
theorem sum_take {xs : List Int} {n : Nat} (h : n ≤ xs.length) : (xs.take n).sum = sumN n (gI xs) := by
  rw [sum_gI (n := n) (by rw [List.length_take]; omega)]
  refine sumN_congr fun i hi => ?_
  unfold gI
  simp [List.getD, List.getElem?_take, hi]
section
variable {P : Nat} {ts : List TF}
/-- the firsts behind so many frames -/
inductive FI (ts : List TF) (g : Nat) (L : List Int) (i : Nat) (kvs : List (Int × D)) : Prop
  | none : i = 0 → kvs = [] → FI ts g L i kvs
  | one (x : Int) : 1 ≤ i → kvs = [(x, .bool true)] → (∀ a t, a < i → ts[a]? = some t → oneW t (gI L) = x * (t.1 / g : Nat)) → FI ts g L i kvs
  | two : 2 ≤ kvs.length → kvs.length ≤ i → (¬ ∃ x : Int, ∀ t ∈ ts, oneW t (gI L) = x * (t.1 / g : Nat)) → FI ts g L i kvs
theorem FI.len {g i : Nat} {L : List Int} {kvs : List (Int × D)} (h : FI ts g L i kvs) : kvs.length ≤ i := by
  cases h with
  | none a b => subst b; simp
  | one x a b c => subst b; simpa using a
  | two a b c => exact b
theorem kvPut_len {kvs : List (Int × D)} {k : Int} {v : D} : kvs.length ≤ (kvPut kvs k v).length ∧ (kvPut kvs k v).length ≤ kvs.length + 1 := by
  unfold kvPut
  split
  · rw [List.length_map]; omega
  · rw [List.length_append, List.length_singleton]; omega
theorem FI.put {g i : Nat} {L : List Int} {kvs : List (Int × D)} {t : TF} {y : Int} (h : FI ts g L i kvs) (ht : ts[i]? = some t) (hy : oneW t (gI L) = y * (t.1 / g : Nat)) (hpos : ∀ t ∈ ts, 1 ≤ t.1 / g) : FI ts g L (i + 1) (kvPut kvs y (.bool true)) := by
  cases h with
  | none a b =>
    subst a b
    refine .one y (by omega) rfl fun a u ha hu => ?_
    have : a = 0 := by omega
    subst this
    rw [ht] at hu; cases hu; exact hy
  | one x a b c =>
    subst b
    by_cases e : x = y
    · subst e
      refine .one x (by omega) ?_ fun a' u ha hu => ?_
      · unfold kvPut; simp
      · by_cases z : a' = i
        · subst z; rw [ht] at hu; cases hu; exact hy
        · exact c a' u (by omega) hu
    · refine .two ?_ ?_ ?_
      · unfold kvPut; simp [e]
      · unfold kvPut; simp [e]; omega
      · rintro ⟨w, hw⟩
        have hlt : 0 < ts.length := by have := (List.getElem?_eq_some_iff.mp ht).1; omega
        have h0 : ts[0]? = some ts[0] := List.getElem?_eq_getElem hlt
        have c0 := c 0 _ (by omega) h0
        have m0 := List.mem_of_getElem? h0
        have m1 := List.mem_of_getElem? ht
        have w0 := hw _ m0
        have w1 := hw _ m1
        have p0 := hpos _ m0
        have p1 := hpos _ m1
        have e0 : w = x := Int.eq_of_mul_eq_mul_right (a := ((ts[0].1 / g : Nat) : Int)) (by omega) (by omega)
        have e1 : w = y := Int.eq_of_mul_eq_mul_right (a := ((t.1 / g : Nat) : Int)) (by omega) (by omega)
        omega
  | two a b c =>
    obtain ⟨l1, l2⟩ := kvPut_len (kvs := kvs) (k := y) (v := .bool true)
    exact .two (by omega) (by omega) c
def stO (P : Nat) (ts : List TF) (g : Nat) (s3 s4 s5 s6 s7 s8 s9 : Sl) : Rho := [.im (.int (P : Int)), .im (tsD ts), .im (.int (g : Int)), s3, s4, s5, s6, s7, s8, s9]
abbrev duoO : D → Rho → Option Rho := qTup (qCons (qN 3) (qCons (qN 4) qNil))
abbrev firB : SS := sThen [3, 4, 7] (sSeq (sAsg (sOp subD (sOp ixD (sV 4) (sC (.int 0))) (sCB sumA (sCons (sSl slD (sV 5) sNoP (sP (sV 3))) sNil))) (qN 7))
 (sSeq (sIfS (sB (sOp neD (sOp modD (sV 7) (sOp fdivD (sV 3) (sV 2))) (sC (.int 0))))
 (sRet (sC .none))
 sNext)
 (sDPutS 6 (sOp fdivD (sV 7) (sOp fdivD (sV 3) (sV 2))) (sC (.bool true)))))
theorem fir_run {g : Nat} {t : TF} {L : List Int} {kvs : List (Int × D)} (hg : 1 ≤ g) (hg2 : g ≤ 1000) (ht1 : 1 ≤ t.1) (htP : t.1 ≤ P) (hP : P ≤ 24) (hL : L.length = P) (hc : 1 ≤ t.2.length) (hd : g ∣ t.1) (hk : kvs.length ≤ 100) :
    (oneW t (gI L) % ((t.1 / g : Nat) : Int) = 0 → firB (stO P ts g (.im (.int (t.1 : Int))) (.im (.tuple (iL t.2))) (.im (.list (iL L))) (.od kvs) .un .un .un) (0, 0) = some (.nx, stO P ts g .un .un (.im (.list (iL L))) (.od (kvPut kvs (oneW t (gI L) / ((t.1 / g : Nat) : Int)) (.bool true))) .un .un .un, (0, 0))) ∧
    (oneW t (gI L) % ((t.1 / g : Nat) : Int) ≠ 0 → ∃ ρ, firB (stO P ts g (.im (.int (t.1 : Int))) (.im (.tuple (iL t.2))) (.im (.list (iL L))) (.od kvs) .un .un .un) (0, 0) = some (.rt .none, ρ, (0, 0))) := by
  have ap : 1 ≤ t.1 / g := Nat.div_pos (Nat.le_of_dvd (by omega) hd) (by omega)
  have al : t.1 / g ≤ 24 := Nat.le_trans (Nat.div_le_self _ _) (by omega)
  have a0 : atI (iL t.2) 0 = some (.int (gI t.2 0)) := atI_iL (j := 0) (by omega)
  have ec : cutL (iL L) none (some (t.1 : Int)) = iL (L.take t.1) := by
    unfold cutL
    rw [HT.sIx_nat]
    show ((iL L).drop 0).take (min t.1 (iL L).length - 0) = _
    rw [List.drop_zero, iL_len, Nat.sub_zero, Nat.min_eq_left (by omega)]
    unfold iL; rw [List.map_take]
  have es : sumA [.list (iL (L.take t.1))] = some (.int (sumN t.1 (gI L))) := by
    show (intsD (iL _)).map _ = _
    rw [show intsD (iL (L.take t.1)) = some (L.take t.1) from intsD_map _]
    show some (PyData.int (L.take t.1).sum) = _
    rw [sum_take (by omega)]
  have ef : fdivD (.int (t.1 : Int)) (.int (g : Int)) = some (.int ((t.1 / g : Nat) : Int)) := by
    rw [fdivI (by omega) (by omega)]; rfl
  have em : modD (.int (oneW t (gI L))) (.int ((t.1 / g : Nat) : Int)) = some (.int (oneW t (gI L) % ((t.1 / g : Nat) : Int))) := modI (by omega)
  have ed : fdivD (.int (oneW t (gI L))) (.int ((t.1 / g : Nat) : Int)) = some (.int (oneW t (gI L) / ((t.1 / g : Nat) : Int))) := fdivI (by omega) (by omega)
  have fk : few kvs.length = true := few_of (by omega)
  have s1 : ∀ {f : SS} {r}, f (stO P ts g (.im (.int (t.1 : Int))) (.im (.tuple (iL t.2))) (.im (.list (iL L))) (.od kvs) (.im (.int (oneW t (gI L)))) .un .un) (0, 0) = some r → sSeq (sAsg (sOp subD (sOp ixD (sV 4) (sC (.int 0))) (sCB sumA (sCons (sSl slD (sV 5) sNoP (sP (sV 3))) sNil))) (qN 7)) f (stO P ts g (.im (.int (t.1 : Int))) (.im (.tuple (iL t.2))) (.im (.list (iL L))) (.od kvs) .un .un .un) (0, 0) = some r := fun {f r} h => by
    refine seq_run ?_ h
    unfold stO
    simp only [ev_sAsg, ev_sOp, ev_sV, ev_sC, ev_sCB, ev_sCons, ev_sNil, ev_sSl, ev_sNoP, ev_sP, List.getElem?_cons_succ, List.getElem?_cons_zero, Option.bind_some, ev_ixT, a0, ev_slL, ec, es, ev_subII, ev_qN, List.set_cons_succ, List.set_cons_zero]
    rfl
  have test : sB (sOp neD (sOp modD (sV 7) (sOp fdivD (sV 3) (sV 2))) (sC (.int 0))) (stO P ts g (.im (.int (t.1 : Int))) (.im (.tuple (iL t.2))) (.im (.list (iL L))) (.od kvs) (.im (.int (oneW t (gI L)))) .un .un) (0, 0) = some (!decide (oneW t (gI L) % ((t.1 / g : Nat) : Int) = 0), (0, 0)) := by
    unfold stO
    simp only [ev_sB, ev_sOp, ev_sV, ev_sC, List.getElem?_cons_succ, List.getElem?_cons_zero, Option.bind_some, ef, em, neD_int]
  constructor
  · intro h0
    rw [decide_eq_true h0] at test
    refine then_run (ρ1 := stO P ts g (.im (.int (t.1 : Int))) (.im (.tuple (iL t.2))) (.im (.list (iL L))) (.od (kvPut kvs (oneW t (gI L) / ((t.1 / g : Nat) : Int)) (.bool true))) (.im (.int (oneW t (gI L)))) .un .un) (s1 (seq_run (DL.ifF test rfl) ?_)) rfl
    unfold sDPutS stO
    simp only [ev_sOp, ev_sV, ev_sC, List.getElem?_cons_succ, List.getElem?_cons_zero, Option.bind_some, ef, ed, fk, if_true, List.set_cons_succ, List.set_cons_zero]
  · intro h0
    rw [decide_eq_false h0] at test
    exact ⟨_, then_rt (s1 (seq_rt (DL.ifT test rfl)))⟩
theorem F_as_one_eq (hT : TOk P ts) (hL : Lg P ts) (hLL : LongL P (ts.map (·.1))) :
    (∃ (x : Int) (L : List Int), F_as_one [.int (P : Int), tsD ts] = some (oneD P (gcdL (ts.map (·.1))) x L) ∧ L.length = P ∧ Pot P ts (gI L) ∧ ∀ t ∈ ts, oneW t (gI L) = x * (t.1 / gcdL (ts.map (·.1)) : Nat)) ∨
    (F_as_one [.int (P : Int), tsD ts] = some .none ∧ NoRow P ts) := by
  have eN := F_need_long_eq hT hL
  have hT0 := hT
  obtain ⟨hP, h3, hTs⟩ := hT
  have hg := gcdL_pos hLL
  have hne := long_ne hLL
  obtain ⟨t0, tr, et⟩ : ∃ t0 tr, ts = t0 :: tr := by
    cases ts with
    | nil => exact absurd rfl hne
    | cons a b => exact ⟨a, b, rfl⟩
  have hm0 : t0 ∈ ts := by rw [et]; exact List.mem_cons_self
  have htP : ∀ t ∈ ts, t.1 ≤ P := fun t ht => (hTs t ht).2.1
  have hdv : ∀ t ∈ ts, gcdL (ts.map (·.1)) ∣ t.1 := fun t ht => gcdL_dvd (mem_fs ht)
  have hgP : gcdL (ts.map (·.1)) ≤ P := Nat.le_trans (Nat.le_of_dvd (by have := (hTs t0 hm0).1; omega) (hdv t0 hm0)) (htP t0 hm0)
  have hpos : ∀ t ∈ ts, 1 ≤ t.1 / gcdL (ts.map (·.1)) := fun t ht => Nat.div_pos (Nat.le_of_dvd (by have := (hTs t ht).1; omega) (hdv t ht)) (by omega)
  have one := fun L (hp : Pot P ts L) y (hs : Sol P ts 1 y) => sol_one hLL hp (show (1 : Int) ≠ 0 by decide) hs
  have e0 : gcdL (ts.map (·.1)) = (ts.map (·.1)).foldl Nat.gcd t0.1 := by
    unfold gcdL
    rw [et]
    exact gcd_fold (b := 0)
  -- the common divisor
  have s0 : ∀ {f : SS} {Q}, Runs f (stO P ts (gcdL (ts.map (·.1))) .un .un .un .un .un .un .un) (0, 0) Q → Runs (sSeq (sDrop (sCall F_need_long (sCons (sV 0) (sCons (sV 1) sNil))))
      (sSeq (sAsg (sOp ixD (sOp ixD (sV 1) (sC (.int 0))) (sC (.int 0))) (qN 2))
      (sSeq (sFor (sItT (sV 1)) duoO (sThen [3, 4] (sAsg (sCall F_common (sCons (sV 2) (sCons (sV 3) sNil))) (qN 2)))) f))) ([PyData.int (P : Int), tsD ts].map .im ++ List.replicate 8 .un) (0, 0) Q := fun {f Q} h => by
    refine .seq (ρ1 := [.im (.int (P : Int)), .im (tsD ts), .un, .un, .un, .un, .un, .un, .un, .un]) (c1 := (0, 0)) ?_ ?_
    · unfold sDrop
      simp only [ev_sCall, ev_sCons, ev_sNil, ev_sV, List.map_cons, List.map_nil, List.cons_append, List.nil_append, List.replicate_succ, List.replicate_zero, List.getElem?_cons_succ, List.getElem?_cons_zero, Option.bind_some, eN]
    have a0 : atI (ts.map tfD) 0 = some (tfD t0) := by rw [et]; exact atI_nat (j := 0) rfl
    have a1 : atI [PyData.int (t0.1 : Int), .tuple (iL t0.2)] 0 = some (.int (t0.1 : Int)) := atI_nat (j := 0) rfl
    refine .seq (ρ1 := stO P ts t0.1 .un .un .un .un .un .un .un) (c1 := (0, 0)) ?_ ?_
    · simp only [ev_sAsg, ev_sOp, ev_sV, ev_sC, List.getElem?_cons_succ, List.getElem?_cons_zero, Option.bind_some, tsD, ev_ixT, a0, tfD, a1, ev_qN, List.set_cons_succ, List.set_cons_zero]
      rfl
    have lp := for_run (c1 := (0, 0)) (c := (0, 0)) (fi := sItT (sV 1)) (tg := duoO) (body := sThen [3, 4] (sAsg (sCall F_common (sCons (sV 2) (sCons (sV 3) sNil))) (qN 2))) (ρ := stO P ts t0.1 .un .un .un .un .un .un .un) (xs := ts.map tfD) (st := fun i => stO P ts (((ts.take i).map (·.1)).foldl Nat.gcd t0.1) .un .un .un .un .un .un .un) rfl rfl fun i x hx => by
      rw [List.getElem?_map] at hx
      obtain ⟨t, ht, rfl⟩ := Option.map_eq_some_iff.mp hx
      have := htP t (List.mem_of_getElem? ht)
      have ec : F_common [.int ((((ts.take i).map (·.1)).foldl Nat.gcd t0.1 : Nat) : Int), .int (t.1 : Int)] = some (.int ((((ts.take (i + 1)).map (·.1)).foldl Nat.gcd t0.1 : Nat) : Int)) := by
        rw [F_common_eq (by omega), take_succ_get ht, List.map_append, List.foldl_append]
        rfl
      refine ⟨_, rfl, then_run (ρ1 := stO P ts (((ts.take (i + 1)).map (·.1)).foldl Nat.gcd t0.1) (.im (.int (t.1 : Int))) (.im (.tuple (iL t.2))) .un .un .un .un .un) ?_ rfl⟩
      unfold stO
      simp only [ev_sAsg, ev_sCall, ev_sCons, ev_sNil, ev_sV, List.getElem?_cons_succ, List.getElem?_cons_zero, List.set_cons_succ, List.set_cons_zero, Option.bind_some, ec, ev_qN]
    rw [List.length_map, List.take_length, ← e0] at lp
    exact .seq lp h
  generalize hgen : gcdL (ts.map (·.1)) = g at *
  rcases F_ties_eq hT0 with ⟨L, eT, hLl, hpot⟩ | ⟨eT, hno⟩
  · have hp := hpot ⟨t0, hm0, htP t0 hm0⟩
    have st1 : ∀ {f : SS} {Q}, Runs f (stO P ts g .un .un (.im (.list (iL L))) (.od []) .un .un .un) (0, 0) Q → Runs (sSeq (sAsg (sCall F_ties (sCons (sV 0) (sCons (sV 1) sNil))) (qN 5)) (sSeq (sIfS (sB (sOp isND (sV 5) (sC .none))) (sRet (sC .none)) sNext) (sSeq (sDNew 6) f))) (stO P ts g .un .un .un .un .un .un .un) (0, 0) Q := fun {f Q} h => by
      refine .seq (ρ1 := stO P ts g .un .un (.im (.list (iL L))) .un .un .un .un) (c1 := (0, 0)) ?_ (.pass (c1 := (0, 0)) ?_ (.seq (ρ1 := stO P ts g .un .un (.im (.list (iL L))) (.od []) .un .un .un) (c1 := (0, 0)) rfl h))
      · unfold stO
        simp only [ev_sAsg, ev_sCall, ev_sCons, ev_sNil, ev_sV, List.getElem?_cons_succ, List.getElem?_cons_zero, Option.bind_some, eT, ev_qN, List.set_cons_succ, List.set_cons_zero]
      · unfold stO
        simp only [ev_sB, ev_sOp, ev_sV, ev_sC, List.getElem?_cons_succ, List.getElem?_cons_zero, Option.bind_some, ev_isN]
    have lp := forS_or (tg := duoO) (body := firB) (R := fun d c => d = .none ∧ c = (0, 0) ∧ NoRow P ts) (xs := ts.map tfD) (fun i ρ c => c = (0, 0) ∧ ∃ kvs, ρ = stO P ts g .un .un (.im (.list (iL L))) (.od kvs) .un .un .un ∧ FI ts g L i kvs) (ρ := stO P ts g .un .un (.im (.list (iL L))) (.od []) .un .un .un) (c := (0, 0)) ⟨rfl, [], rfl, .none rfl rfl⟩ (fun i x ρ c hx hI => by
      obtain ⟨rfl, kvs, rfl, hF⟩ := hI
      rw [List.getElem?_map] at hx
      obtain ⟨t, ht, rfl⟩ := Option.map_eq_some_iff.mp hx
      have hm := List.mem_of_getElem? ht
      have hi := (List.getElem?_eq_some_iff.mp ht).1
      have hl := hF.len
      obtain ⟨r1, r2⟩ := fir_run (ts := ts) (t := t) (kvs := kvs) hg (by omega) (hTs t hm).1 (htP t hm) hP hLl (by have := (hTs t hm).2.2.1; omega) (hdv t hm) (by omega)
      refine ⟨_, rfl, ?_⟩
      by_cases h0 : oneW t (gI L) % ((t.1 / g : Nat) : Int) = 0
      · exact .inl ⟨_, _, r1 h0, rfl, _, rfl, hF.put ht (Int.ediv_mul_cancel (Int.dvd_of_emod_eq_zero h0)).symm hpos⟩
      · obtain ⟨ρ, e⟩ := r2 h0
        refine .inr ⟨_, ρ, _, e, rfl, rfl, ?_⟩
        rintro ⟨y, hy⟩
        obtain ⟨x, hx, _⟩ := one _ hp y hy
        exact h0 (by rw [hx t hm, Int.mul_emod_left]))
    rw [List.length_map] at lp
    have go : ∀ r, forS duoO firB (ts.map tfD) (stO P ts g .un .un (.im (.list (iL L))) (.od []) .un .un .un) (0, 0) = some r → sFor (sItT (sV 1)) duoO firB (stO P ts g .un .un (.im (.list (iL L))) (.od []) .un .un .un) (0, 0) = some r := fun r e => e
    have fin : ∀ {d : D}, Runs S_as_one ([PyData.int (P : Int), tsD ts].map .im ++ List.replicate 8 .un) (0, 0) (IsRt d) → F_as_one [.int (P : Int), tsD ts] = some d := fun h => bodyP_of rfl h
    rcases lp with ⟨ρ', c', e1, rfl, kvs, rfl, hF⟩ | ⟨d, ρ', c', e1, rfl, rfl, hno⟩
    · cases hF with
      | none a b => rw [et] at a; cases a
      | two a b c =>
        refine .inr ⟨fin ?_, ?_⟩
        · unfold S_as_one
          refine s0 (st1 (.seq (go _ e1) (.leave (c1 := (0, 0)) (c2 := (0, 0)) (d := .none) ?_ rfl rfl)))
          have : decide ((kvs.length : Int) > 1) = true := decide_eq_true (by omega)
          unfold stO sDLenO
          simp only [ev_sB, ev_sOp, ev_sC, List.getElem?_cons_succ, List.getElem?_cons_zero, Option.bind_some, ev_cmpII]
          rw [show decide (1 < (kvs.length : Int)) = true from decide_eq_true (by omega)]
        · rintro ⟨y, hy⟩
          obtain ⟨x, hx, _⟩ := one _ hp y hy
          exact c ⟨x, hx⟩
      | one x a b c =>
        subst b
        have hall : ∀ t ∈ ts, oneW t (gI L) = x * (t.1 / g : Nat) := fun t ht => by
          obtain ⟨i, hi⟩ := List.getElem?_of_mem ht
          exact c i t (List.getElem?_eq_some_iff.mp hi).1 hi
        refine .inl ⟨x, L, fin ?_, hLl, hp, hall⟩
        have hz : ∀ r, r < g → gI L r = 0 := fun r hr => hp.zero r (by rw [hgen]; exact hr)
        have c0 : cnt g (oneRow g x (gI L)) 0 = x := by
          unfold cnt oneRow
          have : (sumN g fun j => gI L (0 + j) + if (0 + j) % g = 0 then x else 0) = sumN g fun r => if r = 0 then x else 0 := sumN_congr fun j hj => by rw [Nat.zero_add, Nat.mod_eq_of_lt hj, hz j hj]; omega
          rw [this, sumN_if0 hg]
        have cs : ∀ s, s + g < P → cnt g (oneRow g x (gI L)) (s + 1) = cnt g (oneRow g x (gI L)) s + gI L (s + g) - gI L s := fun s _ => by
          rw [cnt_step]
          unfold oneRow
          rw [Nat.add_mod_right]
          omega
        have ec : cutL (iL L) none (some (g : Int)) = iL (L.take g) := by
          unfold cutL
          rw [HT.sIx_nat]
          show ((iL L).drop 0).take (min g (iL L).length - 0) = _
          rw [List.drop_zero, iL_len, Nat.sub_zero, Nat.min_eq_left (by omega)]
          unfold iL; rw [List.map_take]
        have es : sumA [.list (iL (L.take g))] = some (.int 0) := by
          show (intsD (iL _)).map _ = _
          rw [show intsD (iL (L.take g)) = some (L.take g) from intsD_map _]
          show some (PyData.int (L.take g).sum) = _
          rw [sum_take (by omega)]
          have : sumN g (gI L) = sumN g fun _ => 0 := sumN_congr fun r hr => hz r hr
          rw [this, sumN_const]; simp
        have f1 : few 1 = true := by decide
        have f2 : few 2 = true := by decide
        have oR : okR ((P : Int) - g) = true := okR_of (by omega) (by omega)
        have eR : ((P : Int) - g).toNat = P - g := by omega
        unfold S_as_one
        refine s0 (st1 (.seq (go _ e1) (.pass (c1 := (0, 0)) ?_ ?_)))
        · unfold stO sDLenO
          simp only [ev_sB, ev_sOp, ev_sC, List.getElem?_cons_succ, List.getElem?_cons_zero, Option.bind_some, ev_cmpII]
          rfl
        refine .seq (ρ1 := stO P ts g .un .un (.im (.list (iL L))) (.od [(x, .bool true)]) .un (.ol (iL ((List.range (0 + 1)).map (cnt g (oneRow g x (gI L)))))) .un) (c1 := (0, 0)) ?_ ?_
        · have : (List.range (0 + 1)).map (cnt g (oneRow g x (gI L))) = [x] := by
            show [cnt g (oneRow g x (gI L)) 0] = [x]
            rw [c0]
          rw [this]
          unfold stO sDMin
          simp only [ev_sAsgL, ev_sDispL, ev_sCons, ev_sNil, ev_sOp, ev_sCB, ev_sSl, ev_sNoP, ev_sP, ev_sV, List.getElem?_cons_succ, List.getElem?_cons_zero, Option.bind_some, ev_slL, ec, es, ev_addII, Int.add_zero, List.length_cons, List.length_nil, Nat.zero_add, f1, if_true, List.set_cons_succ, List.set_cons_zero]
          rfl
        have lp2 := for_run (c1 := (0, 0)) (c := (0, 0)) (fi := sR1 (sCons (sOp subD (sV 0) (sV 2)) sNil)) (tg := qN 9) (body := sThen [9] (sApp 8 (sOp subD (sOp addD (sIxO 8 (sUn negD (sC (.int 1)))) (sOp ixD (sV 5) (sOp addD (sV 9) (sV 2)))) (sOp ixD (sV 5) (sV 9))))) (ρ := stO P ts g .un .un (.im (.list (iL L))) (.od [(x, .bool true)]) .un (.ol (iL ((List.range (0 + 1)).map (cnt g (oneRow g x (gI L)))))) .un) (xs := rngL 0 (P - g)) (st := fun s => stO P ts g .un .un (.im (.list (iL L))) (.od [(x, .bool true)]) .un (.ol (iL ((List.range (s + 1)).map (cnt g (oneRow g x (gI L)))))) .un) (by
          unfold stO
          simp only [ev_sR1, ev_sCons, ev_sNil, ev_sOp, ev_sV, List.getElem?_cons_succ, List.getElem?_cons_zero, Option.bind_some, ev_subII, oR, if_true, eR]) rfl fun s y hy => by
          obtain ⟨hs, rfl⟩ := rngL_lt hy
          rw [show (0 : Int) + (s : Int) = (s : Int) by omega]
          refine ⟨_, rfl, then_run (ρ1 := stO P ts g .un .un (.im (.list (iL L))) (.od [(x, .bool true)]) .un (.ol (iL ((List.range (s + 1 + 1)).map (cnt g (oneRow g x (gI L)))))) (.im (.int (s : Int)))) ?_ rfl⟩
          have e1 : iL ((List.range (s + 1)).map (cnt g (oneRow g x (gI L)))) = iL ((List.range s).map (cnt g (oneRow g x (gI L)))) ++ [.int (cnt g (oneRow g x (gI L)) s)] := by rw [List.range_succ, List.map_append, iL_app]; rfl
          have e2 : atI (iL ((List.range (s + 1)).map (cnt g (oneRow g x (gI L))))) (-1) = some (.int (cnt g (oneRow g x (gI L)) s)) := by rw [e1]; exact atI_last _ _
          have e3 : iL ((List.range (s + 1 + 1)).map (cnt g (oneRow g x (gI L)))) = iL ((List.range (s + 1)).map (cnt g (oneRow g x (gI L)))) ++ [.int (cnt g (oneRow g x (gI L)) s + gI L (s + g) - gI L s)] := by
            rw [List.range_succ, List.map_append, iL_app]
            show _ ++ [PyData.int (cnt g (oneRow g x (gI L)) (s + 1))] = _
            rw [cs s (by omega)]
          have e4 : atI (iL L) ((s : Int) + g) = some (.int (gI L (s + g))) := atI_iL (j := s + g) (by omega)
          have e5 : atI (iL L) (s : Int) = some (.int (gI L s)) := atI_iL (by omega)
          have f3 : few (iL ((List.range (s + 1)).map (cnt g (oneRow g x (gI L))))).length = true := few_of (by rw [iL_len, List.length_map, List.length_range]; omega)
          rw [e3]
          unfold stO
          simp only [ev_sApp, ev_sOp, ev_sIxO, ev_sUn, ev_negI, ev_sC, ev_sV, List.set_cons_succ, List.set_cons_zero, List.getElem?_cons_succ, List.getElem?_cons_zero, Option.bind_some, e2, ev_ixL, ev_addII, e4, e5, ev_subII, f3, if_true]
        rw [rngL_len] at lp2
        refine .seq lp2 (.frz (ds := iL ((List.range (P - g + 1)).map (cnt g (oneRow g x (gI L))))) rfl (.ret (d := oneD P g x L) (c1 := (0, 0)) ?_ rfl))
        unfold stO
        simp only [ev_sTup, ev_sCons, ev_sNil, ev_sCB, ev_sV, List.set_cons_succ, List.set_cons_zero, List.getElem?_cons_succ, List.getElem?_cons_zero, Option.bind_some, ev_tupL, List.length_cons, List.length_nil, Nat.zero_add, f2, if_true]
        rfl
    · refine .inr ⟨fin ?_, hno⟩
      unfold S_as_one
      exact s0 (st1 (.rt (go _ e1) rfl))
  · refine .inr ⟨bodyP_of rfl ?_, hno⟩
    unfold S_as_one
    refine s0 (.seq (ρ1 := stO P ts g .un .un (.im .none) .un .un .un .un) (c1 := (0, 0)) ?_ (.leave (c1 := (0, 0)) (c2 := (0, 0)) (d := .none) ?_ rfl rfl))
    · unfold stO
      simp only [ev_sAsg, ev_sCall, ev_sCons, ev_sNil, ev_sV, List.getElem?_cons_succ, List.getElem?_cons_zero, Option.bind_some, eT, ev_qN, List.set_cons_succ, List.set_cons_zero]
    · unfold stO
      simp only [ev_sB, ev_sOp, ev_sV, ev_sC, List.getElem?_cons_succ, List.getElem?_cons_zero, Option.bind_some, ev_isN]
end
end X
namespace X
open PySem PySem.Spec L2 DL DM
/-- lengths, the last two with a common part -/
def LgI (P : Nat) (ls : List Int) : Prop := ls.length ≤ 1 ∨ gI ls (ls.length - 2) + gI ls (ls.length - 1) - (Int.gcd (gI ls (ls.length - 1)) (gI ls (ls.length - 2)) : Nat) ≤ P
theorem sortU_len (ns : List Int) : (sortU ns).length ≤ ns.length :=
  len_inj (g := id) (List.Pairwise.imp (fun h => Int.ne_of_lt h) (sortU_lt ns)) (fun x hx => (mem_sortU.mp hx)) (fun _ _ _ _ h => h)
def IsLens (P : Nat) (d : D) : Prop := ∃ ls : List Int, d = .list (iL ls) ∧ 1 ≤ ls.length ∧ ls.length ≤ 3 ∧ (∀ l ∈ ls, 1 ≤ l ∧ l ≤ P) ∧ LgI P ls ∧ ls.Pairwise (· < ·)
abbrev lensB : SS := (sThen [3, 4, 5] (sSeq (sAsg (sOp addD (sC (.int 1)) (sCallD F_l_draw 0 (sCons (sCallD F_l_of 0 (sCons (sLst (sCons (sV 1) (sCons (sV 1) (sCons (sCB maxS (sCons (sC (.int 1)) (sCons (sOp fdivD (sV 1) (sC (.int 2))) sNil))) (sCons (sCB minS (sCons (sV 1) (sCons (sC (.int 6)) sNil))) sNil))))) sNil)) sNil))) (qN 4))
       (sSeq (sAsg (sOfL (sSortSetL (sOp addD (sV 2) (sLst (sCons (sV 4) sNil))))) (qN 5))
       (sIfS (sOr (sB (sOp ltD (sCB lenD (sCons (sV 5) sNil)) (sC (.int 2)))) (sB (sOp geD (sV 1) (sOp subD (sOp addD (sOp ixD (sV 5) (sUn negD (sC (.int 1)))) (sOp ixD (sV 5) (sUn negD (sC (.int 2))))) (sCall F_l_common (sCons (sOp ixD (sV 5) (sUn negD (sC (.int 1)))) (sCons (sOp ixD (sV 5) (sUn negD (sC (.int 2)))) sNil)))))))
       (sAsg (sV 5) (qN 2))
       sNext))))
def LI (P : Nat) (i : Nat) (ρ : Rho) (c : Dr) : Prop := OkDr c ∧ ∃ ls : List Int, ρ = [.dr, .im (.int (P : Int)), .im (.list (iL ls)), .un, .un, .un] ∧ ls.length ≤ i ∧ (1 ≤ i → 1 ≤ ls.length) ∧ (∀ l ∈ ls, 1 ≤ l ∧ l ≤ P) ∧ LgI P ls ∧ ls.Pairwise (· < ·)
theorem F_l_lengths_eq {P : Nat} {c : Dr} (hP : 1 ≤ P) (hP2 : P ≤ 24) (hc : OkDr c) : ∃ d c', F_l_lengths [.int (P : Int)] c = some (d, c') ∧ IsLens P d ∧ OkDr c' := by
  refine bodyD_of (P := fun d c' => IsLens P d ∧ OkDr c') rfl ?_
  unfold S_l_lengths
  have f0 : few 0 = true := by decide
  have f1 : few 1 = true := by decide
  have f4 : few 4 = true := by decide
  refine .seq (ρ1 := [.dr, .im (.int (P : Int)), .im (.list (iL [])), .un, .un, .un]) (c1 := c) (by simp [f0, iL]) ?_
  obtain ⟨_, c1, e1, r, rfl, r0, r1, ok1⟩ := F_l_draw_eq (m := 3) (by decide) (by decide) hc
  have or : okR (1 + r) = true := okR_of (by omega) (by omega)
  have loop := for_inv (c := c) (c1 := c1) (fi := sR1 (sCons (sOp addD (sC (.int 1)) (sCallD F_l_draw 0 (sCons (sC (.int 3)) sNil))) sNil)) (tg := qN 3) (body := lensB) (ρ := [.dr, .im (.int (P : Int)), .im (.list (iL [])), .un, .un, .un]) (xs := rngL 0 (1 + r).toNat)
    (LI P) (by simp [e1, or]) ⟨ok1, [], rfl, Nat.le_refl _, fun h => by omega, (fun l h => (by cases h)), .inl (by simp), .nil⟩ fun i x ρ c hx hI => by
      obtain ⟨ok, ls, rfl, hl, h1, hb, hg, hpw⟩ := hI
      obtain ⟨hi, rfl⟩ := rngL_lt hx
      have hi3 : i < 3 := by omega
      have e2 : fdivD (.int (P : Int)) (.int 2) = some (.int ((P : Int) / 2)) := fdivI (by decide) (by decide)
      obtain ⟨dm, c2, e3, hm, ok2⟩ := F_l_of_eq (ds := [.int (P : Int), .int (P : Int), .int (max 1 ((P : Int) / 2)), .int (min (P : Int) 6)]) (c := c) (by simp) (by simp) ok
      obtain ⟨m, rfl, m1, m2⟩ : ∃ m : Int, dm = .int m ∧ 1 ≤ m ∧ m ≤ P := by
        simp only [List.mem_cons, List.not_mem_nil, or_false] at hm
        rcases hm with rfl | rfl | rfl | rfl
        · exact ⟨_, rfl, by omega, by omega⟩
        · exact ⟨_, rfl, by omega, by omega⟩
        · exact ⟨_, rfl, by omega, by omega⟩
        · exact ⟨_, rfl, by omega, by omega⟩
      obtain ⟨_, c3, e4, l, rfl, l0, l1, ok3⟩ := F_l_draw_eq (m := m) m1 (by omega) ok2
      have hb2 : ∀ y ∈ sortU (ls ++ [1 + l]), 1 ≤ y ∧ y ≤ P := fun y hy => by
        rcases List.mem_append.mp (mem_sortU.mp hy) with w | w
        · exact hb y w
        · rw [List.mem_singleton.mp w]; omega
      have hn := sortU_len (ls ++ [1 + l])
      rw [List.length_append, List.length_singleton] at hn
      have hn1 : 1 ≤ (sortU (ls ++ [1 + l])).length := List.length_pos_of_mem (mem_sortU.mpr (List.mem_append_right _ List.mem_cons_self))
      have s2 : sSeq (sAsg (sOfL (sSortSetL (sOp addD (sV 2) (sLst (sCons (sV 4) sNil))))) (qN 5)) sNext [.dr, .im (.int (P : Int)), .im (.list (iL ls)), .im (.int (0 + (i : Int))), .im (.int (1 + l)), .un] c3 = some (.nx, [.dr, .im (.int (P : Int)), .im (.list (iL ls)), .im (.int (0 + (i : Int))), .im (.int (1 + l)), .im (.list (iL (sortU (ls ++ [1 + l]))))], c3) := by
        have fl : few (ls.length + 1) = true := few_of (by omega)
        have ei : intsD (iL ls ++ [.int (1 + l)]) = some (ls ++ [1 + l]) := by
          have := intsD_map (ls ++ [1 + l])
          rw [List.map_append] at this
          exact this
        have l64 : (ls ++ [1 + l]).length < 64 := by rw [List.length_append, List.length_singleton]; omega
        refine seq_run (c1 := c3) ?_ rfl
        rw [ev_sAsg, ev_sOfL]
        unfold sSortSetL
        simp only [ev_sOp, ev_sV, ev_sLst, ev_sCons, ev_sNil, List.getElem?_cons_succ, List.getElem?_cons_zero, Option.bind_some, List.length_cons, List.length_nil, Nat.zero_add, f1, if_true, ev_addLL, iL_len, fl, ei, l64, ev_qN, List.set_cons_succ, List.set_cons_zero]
        rfl
      have s2' : sAsg (sOfL (sSortSetL (sOp addD (sV 2) (sLst (sCons (sV 4) sNil))))) (qN 5) [.dr, .im (.int (P : Int)), .im (.list (iL ls)), .im (.int (0 + (i : Int))), .im (.int (1 + l)), .un] c3 = some (.nx, [.dr, .im (.int (P : Int)), .im (.list (iL ls)), .im (.int (0 + (i : Int))), .im (.int (1 + l)), .im (.list (iL (sortU (ls ++ [1 + l]))))], c3) := by
        unfold sSeq at s2
        cases q : sAsg (sOfL (sSortSetL (sOp addD (sV 2) (sLst (sCons (sV 4) sNil))))) (qN 5) [.dr, .im (.int (P : Int)), .im (.list (iL ls)), .im (.int (0 + (i : Int))), .im (.int (1 + l)), .un] c3 with
        | none => rw [q] at s2; cases s2
        | some v =>
          obtain ⟨fl, ρ', c'⟩ := v
          rw [q] at s2
          cases fl <;> simp at s2 <;> simp [s2]
      have hup : (sortU (ls ++ [1 + l])).Pairwise (· < ·) := sortU_lt _
      generalize sortU (ls ++ [1 + l]) = us at *
      have fin : ∀ {ns : List Int}, (sIfS (sOr (sB (sOp ltD (sCB lenD (sCons (sV 5) sNil)) (sC (.int 2)))) (sB (sOp geD (sV 1) (sOp subD (sOp addD (sOp ixD (sV 5) (sUn negD (sC (.int 1)))) (sOp ixD (sV 5) (sUn negD (sC (.int 2))))) (sCall F_l_common (sCons (sOp ixD (sV 5) (sUn negD (sC (.int 1)))) (sCons (sOp ixD (sV 5) (sUn negD (sC (.int 2)))) sNil)))))))
         (sAsg (sV 5) (qN 2))
         sNext) [.dr, .im (.int (P : Int)), .im (.list (iL ls)), .im (.int (0 + (i : Int))), .im (.int (1 + l)), .im (.list (iL us))] c3 = some (.nx, [.dr, .im (.int (P : Int)), .im (.list (iL ns)), .im (.int (0 + (i : Int))), .im (.int (1 + l)), .im (.list (iL us))], c3) → ns.length ≤ i + 1 → 1 ≤ ns.length → (∀ l ∈ ns, 1 ≤ l ∧ l ≤ P) → LgI P ns ∧ ns.Pairwise (· < ·) → ∃ ρ1 ρ2 c2, qN 3 (.int (0 + (i : Int))) [.dr, .im (.int (P : Int)), .im (.list (iL ls)), .un, .un, .un] = some ρ1 ∧ lensB ρ1 c = some (.nx, ρ2, c2) ∧ LI P (i + 1) ρ2 c2 := fun {ns} h a b d g => by
        refine ⟨_, _, c3, rfl, then_run (ρ1 := [.dr, .im (.int (P : Int)), .im (.list (iL ns)), .im (.int (0 + (i : Int))), .im (.int (1 + l)), .im (.list (iL us))]) (seq_run (ρ1 := [.dr, .im (.int (P : Int)), .im (.list (iL ls)), .im (.int (0 + (i : Int))), .im (.int (1 + l)), .un]) (c1 := c3) ?_ (seq_run s2' h)) rfl, ok3, ns, rfl, a, fun _ => b, d, g.1, g.2⟩
        simp only [ev_sAsg, ev_sOp, ev_sC, ev_sCallD, ev_sCons, ev_sNil, ev_sLst, ev_sV, ev_sCB, ev_qN, List.set_cons_succ, List.set_cons_zero, List.getElem?_cons_succ, List.getElem?_cons_zero, Option.bind_some, e2, ev_maxSS, ev_minSS, List.length_cons, List.length_nil, Nat.zero_add, f4, if_true, e3, e4, ev_addII]
      by_cases hu : us.length < 2
      · refine fin (ns := us) (DL.ifT (c1 := c3) ?_ (by simp)) (by omega) hn1 hb2 ⟨.inl (by omega), hup⟩
        have : ((us.length : Int) < 2) := by omega
        simp [this]
      · have n2 : us.length - 2 < us.length := by omega
        have n1 : us.length - 1 < us.length := by omega
        have g2 := hb2 _ (gI_mem n2)
        have g1 := hb2 _ (gI_mem n1)
        have at' : ∀ k : Nat, 1 ≤ k → k ≤ us.length → atI (iL us) (-(k : Int)) = some (.int (gI us (us.length - k))) := fun k k1 k2 => by
          rw [atI_end k1 (by rw [iL_len]; exact k2), iL_len, iL_get, List.getElem?_eq_getElem (by omega)]
          unfold gI
          simp [List.getD, show us.length - k < us.length by omega]
        have a1 : atI (iL us) (-1) = some (.int (gI us (us.length - 1))) := at' 1 (by decide) (by omega)
        have a2 : atI (iL us) (-2) = some (.int (gI us (us.length - 2))) := at' 2 (by decide) (by omega)
        have eg : F_l_common [.int (gI us (us.length - 1)), .int (gI us (us.length - 2))] = some (.int (Int.gcd (gI us (us.length - 1)) (gI us (us.length - 2)) : Nat)) := F_l_common_eq (by omega)
        have hlt : ¬ ((us.length : Int) < 2) := by omega
        by_cases hge : gI us (us.length - 1) + gI us (us.length - 2) - (Int.gcd (gI us (us.length - 1)) (gI us (us.length - 2)) : Nat) ≤ (P : Int)
        · refine fin (ns := us) (DL.ifT (c1 := c3) ?_ (by simp)) (by omega) hn1 hb2 ⟨.inr (by omega), hup⟩
          simp only [ev_sOr, ev_sB, ev_sOp, ev_sCB, ev_sCons, ev_sNil, ev_sV, ev_sC, ev_sUn, ev_sCall, List.getElem?_cons_succ, List.getElem?_cons_zero, Option.bind_some, ev_lenL, iL_len, ev_cmpII, decide_eq_false hlt, Bool.false_eq_true, if_false, ev_negI, ev_ixL, a1, a2, eg, ev_addII, ev_subII]
          rw [decide_eq_true (by omega)]
        · refine fin (ns := ls) (DL.ifF (c1 := c3) ?_ rfl) (by omega) ?_ hb ⟨hg, hpw⟩
          · simp only [ev_sOr, ev_sB, ev_sOp, ev_sCB, ev_sCons, ev_sNil, ev_sV, ev_sC, ev_sUn, ev_sCall, List.getElem?_cons_succ, List.getElem?_cons_zero, Option.bind_some, ev_lenL, iL_len, ev_cmpII, decide_eq_false hlt, Bool.false_eq_true, if_false, ev_negI, ev_ixL, a1, a2, eg, ev_addII, ev_subII]
            rw [decide_eq_false (by omega)]
          · omega
  obtain ⟨ρ', c', e, ok, ls, rfl, l1, l2, l3, l4, l5⟩ := loop
  rw [rngL_len] at l1 l2
  exact .seq e ⟨_, ret_run (d := .list (iL ls)) (c1 := c') (by simp), _, rfl, ⟨ls, rfl, l2 (by omega), by omega, l3, l4, l5⟩, ok⟩
def IsRow (P : Nat) (d : D) : Prop := ∃ row : List Int, d = .tuple (iL row) ∧ row.length = P ∧ ∀ x ∈ row, -1000 ≤ x ∧ x ≤ 1000
theorem F_l_signed_eq {P : Nat} {c : Dr} (hP : P ≤ 24) (hc : OkDr c) : ∃ d c', F_l_signed [.int (P : Int)] c = some (d, c') ∧ IsRow P d ∧ OkDr c' := by
  obtain ⟨d, c1, e1, hd, ok1⟩ := F_l_of_eq (ds := [.int 1, .int 5, .int 1000]) (c := c) (by simp) (by simp) hc
  obtain ⟨far, rfl, f1, f2⟩ : ∃ far : Int, d = .int far ∧ 1 ≤ far ∧ far ≤ 1000 := by
    simp only [List.mem_cons, List.not_mem_nil, or_false] at hd
    rcases hd with rfl | rfl | rfl
    · exact ⟨1, rfl, by decide, by decide⟩
    · exact ⟨5, rfl, by decide, by decide⟩
    · exact ⟨1000, rfl, by decide, by decide⟩
  have em : mulD (.int 2) (.int far) = some (.int (2 * far)) := mulI1 (by decide)
  obtain ⟨ds, c2, e2, hl, hG, ok2⟩ := lcS_draw (fun d => ∃ r : Int, d = .int r ∧ (-1000 ≤ r ∧ r ≤ 1000)) OkDr (tg := qN 3) (e := sOp subD (sCallD F_l_draw 0 (sCons (sOp addD (sOp mulD (sC (.int 2)) (sV 2)) (sC (.int 1))) sNil)) (sV 2)) (ρ0 := [.dr, .im (.int (P : Int)), .im (.int far), .un]) (xs := rngL 0 P) (c := c1) ok1 (fun x _ => ⟨_, rfl, fun c hc => by
    obtain ⟨d, c', e, r, rfl, r0, r1, ok⟩ := F_l_draw_eq (m := 2 * far + 1) (c := c) (by omega) (by omega) hc
    exact ⟨_, c', by simp [em, e], ⟨r - far, rfl, by omega, by omega⟩, ok⟩⟩)
  obtain ⟨xs, rfl, hx⟩ := ints_of hG
  rw [iL_len, rngL_len] at hl
  refine bodyD_of (P := fun d c' => IsRow P d ∧ OkDr c') rfl ?_
  unfold S_l_signed
  have oP : okR (P : Int) = true := okR_of (by omega) (by omega)
  have fP : few P = true := few_of (by omega)
  have f3 : few 3 = true := by decide
  refine .seq (ρ1 := [.dr, .im (.int (P : Int)), .im (.int far), .un]) (c1 := c1) (by simp [e1, f3]) ?_
  exact ⟨_, ret_run (d := .tuple (iL xs)) (c1 := c2) (by simp [oP, rngL_len, fP, e2]), _, rfl, ⟨xs, rfl, hl, hx⟩, ok2⟩
def GL (P f : Nat) (cs fs : List Int) : List Int := (List.range P).map fun p => gI fs (p % f) + Rf f (gI cs) p
theorem GL_len {P f : Nat} {cs fs : List Int} : (GL P f cs fs).length = P := by unfold GL; simp
theorem GL_get {P f p : Nat} {cs fs : List Int} (h : p < P) : gI (GL P f cs fs) p = gI fs (p % f) + Rf f (gI cs) p := by
  unfold GL gI
  simp [List.getD, h]
theorem GL_first {f : Nat} {cs fs : List Int} (hl : fs.length = f) : GL f f cs fs = fs := by
  unfold GL
  apply List.ext_getElem
  · simp [hl]
  · intro i h1 h2
    simp at h1
    simp [gI, Nat.mod_eq_of_lt h1, Rf_zero h1, h2]
theorem F_l_grown_eq {P f : Nat} {cs fs : List Int} (hf : 1 ≤ f) (hP : f ≤ P) (h24 : P ≤ 1000) (hc : cs.length = P - f + 1) (hl : fs.length = f) : F_l_grown [.int P, .int f, .tuple (iL cs), .tuple (iL fs)] = some (.tuple (iL (GL P f cs fs))) := by
  refine bodyP_of rfl ?_
  unfold S_l_grown
  refine .seq (ρ1 := [.im (.int P), .im (.int f), .im (.tuple (iL cs)), .im (.tuple (iL fs)), .ol (iL (GL f f cs fs)), .un, .un]) (c1 := (0, 0)) (by simp [GL_first hl]) ?_
  refine .seq (for_run (c1 := (0, 0)) (xs := rngL f (P - f)) (st := fun i => [.im (.int P), .im (.int f), .im (.tuple (iL cs)), .im (.tuple (iL fs)), .ol (iL (GL (f + i) f cs fs)), .un, .un]) ?_ rfl fun i x hx => ?_) ?_
  · have e1 : okR (f : Int) = true := okR_of (by omega) (by omega)
    have e2 : okR (P : Int) = true := okR_of (by omega) (by omega)
    have e3 : ((P : Int) - (f : Int)).toNat = P - f := by omega
    simp [e1, e2, e3]
  · obtain ⟨hi, rfl⟩ := rngL_lt hx
    refine ⟨_, rfl, then_run (ρ1 := [.im (.int P), .im (.int f), .im (.tuple (iL cs)), .im (.tuple (iL fs)), .ol (iL (GL (f + i + 1) f cs fs)), .im (.int (f + i)), .im (.int i)]) ?_ rfl⟩
    have e0 : ((f : Int) + i - f) = (i : Int) := by omega
    have e1 : atI (iL (GL (f + i) f cs fs)) (i : Int) = some (.int (gI fs (i % f) + Rf f (gI cs) i)) := by rw [atI_iL (by rw [GL_len]; omega), GL_get (by omega)]
    have e2 : atI (iL cs) ((i : Int) + 1) = some (.int (gI cs (i + 1))) := atI_iL (j := i + 1) (by omega)
    have e3 : atI (iL cs) (i : Int) = some (.int (gI cs i)) := atI_iL (by omega)
    have e4 : iL (GL (f + i + 1) f cs fs) = iL (GL (f + i) f cs fs) ++ [.int (gI fs (i % f) + Rf f (gI cs) i + gI cs (i + 1) - gI cs i)] := by
      unfold GL
      rw [List.range_succ, List.map_append, iL_app, List.map_singleton, Rf_step hf, Nat.add_mod_left]
      show _ = _ ++ iL [_]
      rw [show gI fs (i % f) + (Rf f (gI cs) i + gI cs (i + 1) - gI cs i) = gI fs (i % f) + Rf f (gI cs) i + gI cs (i + 1) - gI cs i by omega]
    have e5 : few (f + i) = true := few_of (by omega)
    simp [e0, e1, e2, e3, e4, e5, GL_len]
  · rw [rngL_len, show f + (P - f) = P by omega]
    exact .frz rfl (.ret (d := .tuple (iL (GL P f cs fs))) (c1 := (0, 0)) (by simp) rfl)
end X
namespace X
open PySem PySem.Spec L2 DL DM
section
variable {P : Nat} {ts : List TF}
theorem ds_sum {w : Nat → Nat → Int} {h : Nat → Nat → Nat → Int} {y : Nat → Int} : ∀ n, ds ts w (fun a b => sumN n fun q => h a b q * y q) = sumN n fun q => ds ts w (fun a b => h a b q) * y q
  | 0 => by
    have : ds ts w (fun _ _ => sumN 0 fun q => h 0 0 q * y q) = 0 := by
      unfold ds
      have : (sumN ts.length fun a => sumN (nN ts a) fun b => w a b * sumN 0 fun q => h 0 0 q * y q) = sumN ts.length fun _ => 0 := sumN_congr fun a _ => by
        have : (sumN (nN ts a) fun b => w a b * sumN 0 fun q => h 0 0 q * y q) = sumN (nN ts a) fun _ => 0 := sumN_congr fun b _ => by rw [sumN0, Int.mul_zero]
        rw [this, sumN_const, Int.mul_zero]
      rw [this, sumN_const, Int.mul_zero]
    exact this
  | n + 1 => by
    rw [sumNs, ← ds_sum n]
    unfold ds
    have e2 : ∀ k : Int, (sumN ts.length fun a => sumN (nN ts a) fun b => w a b * h a b n) * k = sumN ts.length fun a => sumN (nN ts a) fun b => w a b * h a b n * k := fun k => by
      rw [Int.mul_comm, ← sumN_mulL]
      refine sumN_congr fun a _ => ?_
      rw [← sumN_mulL]
      exact sumN_congr fun b _ => Int.mul_comm _ _
    rw [e2, ← sumN_add]
    refine sumN_congr fun a _ => ?_
    rw [← sumN_add]
    refine sumN_congr fun b _ => ?_
    show w a b * (sumN (n + 1) fun q => h a b q * y q) = w a b * (sumN n fun q => h a b q * y q) + w a b * h a b n * y n
    rw [sumNs, Int.mul_add, Int.mul_assoc]
/-- weights that clash: no row -/
theorem ans_norow {w : Nat → Nat → Int} (hT : TOk P ts) (h : ansN P ts w = true) : NoRow P ts := by
  rintro ⟨y, hy⟩
  unfold ansN at h
  rw [Bool.and_eq_true, List.all_eq_true] at h
  obtain ⟨h1, h2⟩ := h
  have hz : ∀ q, q < P → ds ts w (fun a b => cv (fN ts a) q b) = 0 := fun q hq => by
    have := h2 q (List.mem_range.mpr hq)
    rw [decide_eq_true_eq, smN_ds] at this
    exact this
  have e : ds ts w (cN ts) = ds ts w (fun a b => sumN P fun q => cv (fN ts a) q b * y q) := by
    unfold ds
    refine sumN_congr fun a ha => sumN_congr fun b hb => ?_
    have hta : ts[a]? = some ts[a] := List.getElem?_eq_getElem ha
    obtain ⟨t1, t2, t3, _⟩ := hT.2.2 _ (List.mem_of_getElem? hta)
    rw [nN_at hta] at hb
    have hs := hy _ (List.mem_of_getElem? hta) b (by omega)
    rw [Int.one_mul] at hs
    show w a b * cN ts a b = w a b * sumN P fun q => cv (fN ts a) q b * y q
    rw [fN_at hta, win_cv (by omega), hs, cN_at hta]
  rw [ds_sum] at e
  have : (sumN P fun q => ds ts w (fun a b => cv (fN ts a) q b) * y q) = sumN P fun _ => 0 := sumN_congr fun q hq => by rw [hz q hq, Int.zero_mul]
  rw [this, sumN_const, Int.mul_zero] at e
  rw [whN_ds, e] at h1
  simp at h1
theorem form_ws {L : Int} (hL : 407686348800 ≤ L) : ∀ {Ws : List (List Int)} {bs : List TF}, Ws.length = bs.length → (∀ k W, Ws[k]? = some W → W.length = nN bs k ∧ ∀ x ∈ W, -407686348800 ≤ x ∧ x ≤ 407686348800) → rowsOk L (Ws.map fun W => .tuple (iL W)) bs = true
  | [], [], _, _ => rfl
  | [], _ :: _, h, _ => by cases h
  | _ :: _, [], h, _ => by cases h
  | W :: Ws, b :: bs, hl, hh => by
    show (rowOk b.2.length L (.tuple (iL W)) && rowsOk L (Ws.map fun W => .tuple (iL W)) bs) = true
    rw [form_ws hL (by simpa using hl) fun k W hk => hh (k + 1) W hk, Bool.and_true]
    obtain ⟨g1, g2⟩ := hh 0 W rfl
    have g1 : W.length = b.2.length := g1
    show (decide ((iL W).length = b.2.length) && (iL W).all (btw (-L) L)) = true
    rw [iL_len, decide_eq_true g1, Bool.true_and, List.all_eq_true]
    intro z hz
    obtain ⟨x, hx, rfl⟩ := List.mem_map.mp hz
    have := g2 x hx
    show (decide (-L ≤ x) && decide (x ≤ L)) = true
    rw [decide_eq_true (by omega), decide_eq_true (by omega)]; rfl
/-- what is told of the same frames: rows, or weights -/
theorem one_or (hT : TOk P ts) (hL : Lg P ts) (hLL : LongL P (ts.map (·.1))) :
    (∃ (x : Int) (L : List Int), F_as_one [.int (P : Int), tsD ts] = some (oneD P (gcdL (ts.map (·.1))) x L) ∧ F_weights [.int (P : Int), tsD ts] = some .none ∧ L.length = P ∧ Pot P ts (gI L) ∧ ∀ t ∈ ts, oneW t (gI L) = x * (t.1 / gcdL (ts.map (·.1)) : Nat)) ∨
    (F_as_one [.int (P : Int), tsD ts] = some .none ∧ NoRow P ts ∧ ∃ Ws : List (List Int), F_weights [.int (P : Int), tsD ts] = some (.tuple (Ws.map fun W => .tuple (iL W))) ∧ F_are_weights [.int (P : Int), tsD ts, .tuple (Ws.map fun W => .tuple (iL W))] = some (.bool true) ∧ F_l_are_weights [.int (P : Int), tsD ts, .tuple (Ws.map fun W => .tuple (iL W))] = some (.bool true)) := by
  rcases F_as_one_eq hT hL hLL with ⟨x, L, e1, hl, hp, hx⟩ | ⟨e1, hno⟩
  · have hs := one_sol hLL hp hx
    rcases F_weights_eq hT hL with ⟨e2, _⟩ | ⟨Ws, _, _, _, h4⟩
    · exact .inl ⟨x, L, e1, e2, hl, hp, hx⟩
    · exact absurd ⟨_, hs⟩ (ans_norow hT h4)
  · rcases F_weights_eq hT hL with ⟨_, hy⟩ | ⟨Ws, e2, h2, h3, h4⟩
    · exact absurd hy hno
    · have hsm : smallIn (.tuple (Ws.map fun W => .tuple (iL W))) := fun xs e => by
        cases e
        refine ⟨by rw [List.length_map, h2]; have := hT.2.1; omega, fun y hy ys e => ?_⟩
        obtain ⟨W, hW, rfl⟩ := List.mem_map.mp hy
        cases e
        obtain ⟨k, hk⟩ := List.getElem?_of_mem hW
        have hk1 := (List.getElem?_eq_some_iff.mp hk).1
        have hb : ts[k]? = some ts[k] := List.getElem?_eq_getElem (by omega)
        have := (h3 k W hk).1
        rw [nN_at hb] at this
        have := hT.2.2 _ (List.mem_of_getElem? hb)
        have := hT.1
        rw [iL_len]; omega
      have f1 : F_are_weights [.int (P : Int), tsD ts, .tuple (Ws.map fun W => .tuple (iL W))] = some (.bool (formB 10000000000000000000000000000000000000000 ts (.tuple (Ws.map fun W => .tuple (iL W))) && ansN P ts (wt (Ws.map fun W => .tuple (iL W))))) := F_are_weights_eq hT hsm
      have f2 : F_l_are_weights [.int (P : Int), tsD ts, .tuple (Ws.map fun W => .tuple (iL W))] = some (.bool (formB 1000000000000000000000000000000000000000 ts (.tuple (Ws.map fun W => .tuple (iL W))) && ansN P ts (wt (Ws.map fun W => .tuple (iL W))))) := F_l_are_weights_eq (L := 1000000000000000000000000000000000000000) rfl hT
      have g1 : formB 10000000000000000000000000000000000000000 ts (.tuple (Ws.map fun W => .tuple (iL W))) = true := form_ws (by decide) h2 h3
      have g2 : formB 1000000000000000000000000000000000000000 ts (.tuple (Ws.map fun W => .tuple (iL W))) = true := form_ws (by decide) h2 h3
      rw [g1, h4] at f1
      rw [g2, h4] at f2
      exact .inr ⟨e1, hno, Ws, e2, f1, f2⟩
theorem Rf_one {g : Nat} {x : Int} {L : List Int} (hg : 1 ≤ g) (hz : ∀ r, r < g → gI L r = 0) : ∀ p, p < P → Rf g (gI (cOne P g x L)) p = gI L p
  | p, hp => by
    by_cases h : p < g
    · rw [Rf_zero h, hz p h]
    · have e := Rf_step (f := g) (c := gI (cOne P g x L)) (i := p - g) hg
      rw [show g + (p - g) = p by omega] at e
      have get : ∀ s, s < P - g + 1 → gI (cOne P g x L) s = cnt g (oneRow g x (gI L)) s := fun s hs => by
        unfold cOne gI
        simp [List.getD, hs]
      rw [e, Rf_one hg hz (p - g) (by omega), get _ (by omega), get _ (by omega), cnt_step]
      unfold oneRow
      rw [Nat.add_mod_right, show p - g + g = p by omega]
      omega
termination_by p => p
theorem F_l_told_so_eq (hT : TOk P ts) (hL : Lg P ts) (hLL : LongL P (ts.map (·.1))) : F_l_told_so [.int (P : Int), tsD ts] = some (.bool true) := by
  refine bodyP_of rfl ?_
  unfold S_l_told_so
  have f0 : few 0 = true := by decide
  have f1 : few 1 = true := by decide
  have bb : ∀ a b : Bool, eqD (.bool a) (.bool b) = some (.bool (a == b)) := fun a b => by
    have hs : ∀ a : Bool, SeqAt.shaped (.bool a) = true := fun a => by cases a <;> rfl
    unfold eqD
    rw [if_pos ⟨hs a, hs b⟩]
    simp [PyData.eqv]
  have ft : few (ts.map tfD).length = true := few_of (by rw [List.length_map]; have := hT.2.1; omega)
  rcases one_or hT hL hLL with ⟨x, L, e1, e2, hl, hp, hx⟩ | ⟨e1, hno, Ws, e2, f1', f2'⟩
  · have hs := one_sol hLL hp hx
    have hg := gcdL_pos hLL
    have hdv : ∀ t ∈ ts, gcdL (ts.map (·.1)) ∣ t.1 := fun t ht => gcdL_dvd (mem_fs ht)
    have hz := hp.zero
    obtain ⟨t0, hm0⟩ := List.exists_mem_of_ne_nil _ (fun e : ts = [] => long_ne hLL (by rw [e]; rfl))
    have hgP : gcdL (ts.map (·.1)) ≤ P := Nat.le_trans (Nat.le_of_dvd (by have := (hT.2.2 t0 hm0).1; omega) (hdv t0 hm0)) (hT.2.2 t0 hm0).2.1
    have hP := hT.1
    generalize gcdL (ts.map (·.1)) = g at *
    have hcl : (cOne P g x L).length = P - g + 1 := by unfold cOne; rw [List.length_map, List.length_range]
    have c0 : gI (cOne P g x L) 0 = x := by
      have : gI (cOne P g x L) 0 = cnt g (oneRow g x (gI L)) 0 := by unfold cOne gI; simp [List.getD]
      rw [this]
      unfold cnt oneRow
      have : (sumN g fun j => gI L (0 + j) + if (0 + j) % g = 0 then x else 0) = sumN g fun r => if r = 0 then x else 0 := sumN_congr fun j hj => by rw [Nat.zero_add, Nat.mod_eq_of_lt hj, hz j hj]; omega
      rw [this, sumN_if0 hg]
    refine .seq (ρ1 := [.im (.int (P : Int)), .im (tsD ts), .im (oneD P g x L), .im .none, .un, .un, .un, .un, .un]) (c1 := (0, 0)) ?_ ?_
    · simp only [ev_sMany, ev_sAvP, ev_sAvNil, ev_sCall, ev_sCons, ev_sNil, ev_sV, List.map_cons, List.map_nil, List.cons_append, List.nil_append, List.replicate_succ, List.replicate_zero, List.getElem?_cons_succ, List.getElem?_cons_zero, Option.bind_some, e1, e2, List.length_cons, List.length_nil, if_true, ev_setAv, ev_setAv0, ev_slP, List.set_cons_succ, List.set_cons_zero]
    refine .pass (c1 := (0, 0)) ?_ (.pass (c1 := (0, 0)) ?_ ?_)
    · simp only [ev_sB, ev_sOp, ev_sV, ev_sC, List.getElem?_cons_succ, List.getElem?_cons_zero, Option.bind_some, oneD, ev_isN, bb]
      rfl
    · have : notND (.none : D) .none = some (.bool false) := rfl
      simp only [ev_sB, ev_sOp, ev_sV, ev_sC, List.getElem?_cons_succ, List.getElem?_cons_zero, Option.bind_some, this]
    refine .seq (ρ1 := [.im (.int (P : Int)), .im (tsD ts), .im (oneD P g x L), .im .none, .im (.int (g : Int)), .im (.tuple (iL (cOne P g x L))), .un, .un, .un]) (c1 := (0, 0)) ?_ ?_
    · simp only [ev_sAsg, ev_sV, List.getElem?_cons_succ, List.getElem?_cons_zero, Option.bind_some, oneD, ev_qTup, ev_qCons, ev_qNil, ev_qN, List.set_cons_succ, List.set_cons_zero]
    have l1 := lcS_run (tg := qTup (qCons (qN 7) (qCons (qN 8) qNil))) (t := sB (sOp neD (sOp modD (sV 7) (sV 4)) (sC (.int 0)))) (e := sV 7) (ρ0 := [.im (.int (P : Int)), .im (tsD ts), .im (oneD P g x L), .im .none, .im (.int (g : Int)), .im (.tuple (iL (cOne P g x L))), .un, .un, .un]) (xs := ts.map tfD) (c := (0, 0)) (fun _ => none) (fun z hz' => by
      obtain ⟨t, ht, rfl⟩ := List.mem_map.mp hz'
      obtain ⟨k, hk⟩ := hdv t ht
      have em : modD (.int (t.1 : Int)) (.int (g : Int)) = some (.int 0) := by
        rw [modI (by omega)]
        have : (t.1 : Int) % (g : Int) = 0 := Int.emod_eq_zero_of_dvd ⟨(k : Int), by rw [hk, Int.natCast_mul]⟩
        rw [this]
      refine ⟨_, rfl, ?_⟩
      simp only [ev_sB, ev_sOp, ev_sV, ev_sC, List.set_cons_succ, List.set_cons_zero, List.getElem?_cons_succ, List.getElem?_cons_zero, Option.bind_some, em, neD_int]
      rfl)
    have n1 : (ts.map tfD).filterMap (fun _ => (none : Option D)) = [] := by
      rw [List.filterMap_eq_nil_iff]; intro _ _; rfl
    rw [n1] at l1
    have n2 : neD (.list []) (.list []) = some (.bool false) := rfl
    have n3 : neD (.int (((cOne P g x L).length : Nat) : Int)) (.int ((P : Int) - g + 1)) = some (.bool false) := by
      rw [neD_int, decide_eq_true (by rw [hcl]; omega)]; rfl
    refine .pass (c1 := (0, 0)) ?_ ?_
    · simp only [ev_sOr, ev_sB, ev_sOp, ev_sOfL, ev_sLc, ev_sItT, ev_sV, List.getElem?_cons_succ, List.getElem?_cons_zero, Option.bind_some, tsD, ft, if_true, ev_wipe0, ev_wipe1, List.set_cons_succ, List.set_cons_zero]
      rw [show PyData.tuple (ts.map tfD) = tsD ts from rfl]
      rw [l1]
      simp only [Option.bind_some, ev_sLst, ev_sNil, List.length_nil, f0, if_true, n2, Bool.false_eq_true, if_false, ev_sCB, ev_sCons, ev_sV, List.getElem?_cons_succ, List.getElem?_cons_zero, ev_lenT, iL_len, ev_sC, ev_subII, ev_addII, n3]
    have a0 : atI (iL (cOne P g x L)) 0 = some (.int x) := by
      have := atI_iL (xs := cOne P g x L) (j := 0) (by omega)
      rw [c0] at this
      exact this
    have em : mulD (.tuple [.int 0]) (.int ((g : Int) - 1)) = some (.tuple (iL (List.replicate (g - 1) 0))) := by
      show (if ([PyData.int 0] : List D).length ≤ 1000 ∧ (-1000 : Int) ≤ (g : Int) - 1 ∧ (g : Int) - 1 ≤ 1000 then some (PyData.tuple (List.replicate ((g : Int) - 1).toNat [PyData.int 0]).flatten) else none) = _
      rw [if_pos ⟨by decide, by omega, by omega⟩, show ((g : Int) - 1).toNat = g - 1 by omega, List.flatten_replicate_singleton]
      unfold iL
      rw [List.map_replicate]
    have eg := F_l_grown_eq (P := P) (f := g) (cs := cOne P g x L) (fs := x :: List.replicate (g - 1) 0) hg hgP (by omega) hcl (by rw [List.length_cons, List.length_replicate]; omega)
    have fg : few (1 + (g - 1)) = true := few_of (by omega)
    refine .seq (ρ1 := [.im (.int (P : Int)), .im (tsD ts), .im (oneD P g x L), .im .none, .im (.int (g : Int)), .im (.tuple (iL (cOne P g x L))), .im (.tuple (iL (GL P g (cOne P g x L) (x :: List.replicate (g - 1) 0)))), .un, .un]) (c1 := (0, 0)) ?_ ?_
    · have et : addD (.tuple [.int x]) (.tuple (iL (List.replicate (g - 1) 0))) = some (.tuple (iL (x :: List.replicate (g - 1) 0))) := by
        rw [ev_addTT, iL_len, List.length_replicate]
        show (if few (1 + (g - 1)) = true then _ else _) = _
        rw [if_pos fg]; rfl
      simp only [ev_sAsg, ev_sCall, ev_sCons, ev_sNil, ev_sOp, ev_sTup, ev_sV, ev_sC, List.getElem?_cons_succ, List.getElem?_cons_zero, Option.bind_some, ev_ixT, a0, List.length_cons, List.length_nil, Nat.zero_add, f1, if_true, ev_subII, em, et, eg, ev_qN, List.set_cons_succ, List.set_cons_zero]
    have hrow : ∀ p, p < P → gI (GL P g (cOne P g x L) (x :: List.replicate (g - 1) 0)) p = oneRow g x (gI L) p := fun p hp' => by
      rw [GL_get hp', Rf_one hg hz p hp']
      unfold oneRow
      have hm : p % g < g := Nat.mod_lt _ (by omega)
      have : gI (x :: List.replicate (g - 1) 0) (p % g) = if p % g = 0 then x else 0 := by
        unfold gI
        cases q : p % g with
        | zero => rfl
        | succ r => rw [if_neg (by omega)]; simp [List.getD, List.getElem?_replicate]; split <;> rfl
      rw [this]; omega
    have hcs : ∀ t ∈ ts, csL t.1 (GL P g (cOne P g x L) (x :: List.replicate (g - 1) 0)) = t.2 := fun t ht => by
      obtain ⟨t1, t2, t3, _⟩ := hT.2.2 t ht
      refine gI_ext (by rw [csL_len, GL_len, t3]) fun s hs' => ?_
      rw [csL_len, GL_len] at hs'
      rw [csL_get (by rw [GL_len]; exact hs')]
      have := hs t ht s (by omega)
      rw [Int.one_mul] at this
      rw [← this]
      unfold cnt
      exact sumN_congr fun j hj => hrow _ (by omega)
    generalize hR : GL P g (cOne P g x L) (x :: List.replicate (g - 1) 0) = row at *
    have hrl : row.length = P := by rw [← hR]; exact GL_len
    have l2 := lcS_run (tg := qTup (qCons (qN 7) (qCons (qN 8) qNil))) (t := sB (sOp neD (sCall F_l_counts (sCons (sV 6) (sCons (sV 7) sNil))) (sV 8))) (e := sC (.int 1)) (ρ0 := [.im (.int (P : Int)), .im (tsD ts), .im (oneD P g x L), .im .none, .im (.int (g : Int)), .im (.tuple (iL (cOne P g x L))), .im (.tuple (iL row)), .un, .un]) (xs := ts.map tfD) (c := (0, 0)) (fun _ => none) (fun z hz' => by
      obtain ⟨t, ht, rfl⟩ := List.mem_map.mp hz'
      obtain ⟨t1, t2, t3, _⟩ := hT.2.2 t ht
      have ec := F_l_counts_eq (f := t.1) (row := row) t1 (by omega) (by omega)
      rw [hcs t ht] at ec
      have en : neD (.tuple (iL t.2)) (.tuple (iL t.2)) = some (.bool false) := neD_b (n := 1) (b := true) pln_tup pln_tup (by decide) (by simp)
      refine ⟨_, rfl, ?_⟩
      simp only [ev_sB, ev_sOp, ev_sCall, ev_sCons, ev_sNil, ev_sV, List.set_cons_succ, List.set_cons_zero, List.getElem?_cons_succ, List.getElem?_cons_zero, Option.bind_some, ec, en])
    rw [n1] at l2
    have q2 : eqD (.list []) (.list []) = some (.bool true) := rfl
    refine .ret (d := .bool true) (c1 := (0, 0)) ?_ rfl
    simp only [ev_sOp, ev_sOfL, ev_sLc, ev_sItT, ev_sV, List.getElem?_cons_succ, List.getElem?_cons_zero, Option.bind_some, tsD, ft, if_true, ev_wipe0, ev_wipe1, List.set_cons_succ, List.set_cons_zero]
    rw [show PyData.tuple (ts.map tfD) = tsD ts from rfl]
    rw [l2]
    simp only [Option.bind_some, ev_sLst, ev_sNil, List.length_nil, f0, if_true, q2]
  · refine .seq (ρ1 := [.im (.int (P : Int)), .im (tsD ts), .im .none, .im (.tuple (Ws.map fun W => .tuple (iL W))), .un, .un, .un, .un, .un]) (c1 := (0, 0)) ?_ ?_
    · simp only [ev_sMany, ev_sAvP, ev_sAvNil, ev_sCall, ev_sCons, ev_sNil, ev_sV, List.map_cons, List.map_nil, List.cons_append, List.nil_append, List.replicate_succ, List.replicate_zero, List.getElem?_cons_succ, List.getElem?_cons_zero, Option.bind_some, e1, e2, List.length_cons, List.length_nil, if_true, ev_setAv, ev_setAv0, ev_slP, List.set_cons_succ, List.set_cons_zero]
    refine .pass (c1 := (0, 0)) ?_ (.leave (c1 := (0, 0)) (c2 := (0, 0)) (d := .bool true) ?_ ?_ rfl)
    · simp only [ev_sB, ev_sOp, ev_sV, ev_sC, List.getElem?_cons_succ, List.getElem?_cons_zero, Option.bind_some, ev_isN, bb]
      rfl
    · have : notND (.tuple (Ws.map fun W => .tuple (iL W)) : D) .none = some (.bool true) := rfl
      simp only [ev_sB, ev_sOp, ev_sV, ev_sC, List.getElem?_cons_succ, List.getElem?_cons_zero, Option.bind_some, this]
    · have : isBD (.bool true) (.bool true) = some (.bool true) := rfl
      simp only [ev_sAndV, ev_sB, ev_sCall, ev_sCons, ev_sNil, ev_sOp, ev_sV, ev_sC, List.getElem?_cons_succ, List.getElem?_cons_zero, Option.bind_some, f2', if_true, f1', this]
end
end X
namespace X
open PySem PySem.Spec L2 DL DM
theorem cut_to {α : Type} {xs : List α} {n : Nat} (h : n ≤ xs.length) : cutL xs none (some (n : Int)) = xs.take n := by
  unfold cutL
  rw [HT.sIx_nat]
  show (xs.drop 0).take (min n xs.length - 0) = _
  rw [List.drop_zero, Nat.sub_zero, Nat.min_eq_left h]
theorem cut_from {α : Type} {xs : List α} {n : Nat} (h : n ≤ xs.length) : cutL xs (some (n : Int)) none = xs.drop n := by
  unfold cutL
  rw [HT.sIx_nat, Nat.min_eq_left h]
  show (xs.drop n).take (xs.length - n) = _
  rw [List.take_of_length_le (by rw [List.length_drop]; exact Nat.le_refl _)]
theorem set_gI {xs : List Int} {i : Nat} (h : i < xs.length) : xs.set i (gI xs i) = xs := by
  refine List.ext_getElem (by rw [List.length_set]) fun j h1 h2 => ?_
  rw [List.getElem_set]
  split
  · rename_i e
    subst e
    unfold gI
    simp [List.getD, h]
  · rfl
theorem gI_set {xs : List Int} {i j : Nat} {v : Int} (h : i < xs.length) : gI (xs.set i v) j = if j = i then v else gI xs j := by
  unfold gI
  rw [List.getD_eq_getElem?_getD, List.getElem?_set, List.getD_eq_getElem?_getD]
  by_cases e : i = j
  · subst e; rw [if_pos rfl, if_pos h, if_pos rfl]; rfl
  · rw [if_neg e, if_neg (fun z => e z.symm)]
theorem iL_set {xs : List Int} {i : Nat} {v : Int} : (iL xs).set i (.int v) = iL (xs.set i v) := by unfold iL; rw [List.map_set]
section
variable {row : List Int} {g : Nat} {c : Dr}
/-- more at some places, less at others -/
def dlt (more less far : Int) (r : Nat) : Int := (if (r : Int) = more then far else 0) + (if (r : Int) = less then -far else 0)
theorem dlt_sum {more less far : Int} (h0 : 0 ≤ more) (h1 : more < g) (h2 : 0 ≤ less) (h3 : less < g) : sumN g (dlt more less far) = 0 := by
  unfold dlt
  rw [sumN_add]
  have e : ∀ (m : Int) (v : Int), 0 ≤ m → m < g → (sumN g fun r => if (r : Int) = m then v else 0) = v := fun m v a b => by
    have : (sumN g fun r => if (r : Int) = m then v else 0) = sumN g fun k => if k = m.toNat then v else 0 := sumN_congr fun k _ => by
      by_cases z : (k : Int) = m
      · rw [if_pos z, if_pos (by omega)]
      · rw [if_neg z, if_neg (by omega)]
    rw [this, sumN_pick, if_pos (by omega)]
  rw [e more far h0 h1, e less (-far) h2 h3]; omega
abbrev movB : SS := sThen [7] (sSeq (sIfS (sB (sOp eqD (sOp modD (sV 7) (sV 2)) (sV 4)))
 (sSetI 3 (sV 7) (sOp addD (sIxO 3 (sV 7)) (sV 6)))
 sNext)
 (sIfS (sB (sOp eqD (sOp modD (sV 7) (sV 2)) (sV 5)))
 (sSetI 3 (sV 7) (sOp subD (sIxO 3 (sV 7)) (sV 6)))
 sNext))
def stM (row : List Int) (g : Nat) (xs : List Int) (more less far : Int) (s7 : Sl) : Rho := [.dr, .im (.tuple (iL row)), .im (.int (g : Int)), .ol (iL xs), .im (.int more), .im (.int less), .im (.int far), s7]
theorem mov_step {xs : List Int} {more less far : Int} {i : Nat} (hg : 1 ≤ g) (hi : i < xs.length) : movB (stM row g xs more less far (.im (.int (i : Int)))) c = some (.nx, stM row g (xs.set i (gI xs i + dlt more less far (i % g))) more less far .un, c) := by
  have em : modD (.int (i : Int)) (.int (g : Int)) = some (.int ((i % g : Nat) : Int)) := by rw [modI (by omega)]; rfl
  have one : ∀ {ys : List Int} {v : Int}, ys.length = xs.length → sSetI 3 (sV 7) (sOp addD (sIxO 3 (sV 7)) (sV 6)) (stM row g ys more less far (.im (.int (i : Int)))) c = some (.nx, stM row g (ys.set i (gI ys i + far)) more less far (.im (.int (i : Int))), c) := fun {ys v} hl => by
    have a1 : atI (iL ys) (i : Int) = some (.int (gI ys i)) := atI_iL (by omega)
    have ix : ixN (iL ys).length (i : Int) = some i := ixN_nat (by rw [iL_len]; omega)
    unfold stM
    simp only [ev_sSetI, ev_sOp, ev_sIxO, ev_sV, List.getElem?_cons_succ, List.getElem?_cons_zero, Option.bind_some, a1, ev_addII, ix, iL_set, List.set_cons_succ, List.set_cons_zero]
  have two : ∀ {ys : List Int}, ys.length = xs.length → sSetI 3 (sV 7) (sOp subD (sIxO 3 (sV 7)) (sV 6)) (stM row g ys more less far (.im (.int (i : Int)))) c = some (.nx, stM row g (ys.set i (gI ys i - far)) more less far (.im (.int (i : Int))), c) := fun {ys} hl => by
    have a1 : atI (iL ys) (i : Int) = some (.int (gI ys i)) := atI_iL (by omega)
    have ix : ixN (iL ys).length (i : Int) = some i := ixN_nat (by rw [iL_len]; omega)
    unfold stM
    simp only [ev_sSetI, ev_sOp, ev_sIxO, ev_sV, List.getElem?_cons_succ, List.getElem?_cons_zero, Option.bind_some, a1, ev_subII, ix, iL_set, List.set_cons_succ, List.set_cons_zero]
  have t1 : ∀ ys, sB (sOp eqD (sOp modD (sV 7) (sV 2)) (sV 4)) (stM row g ys more less far (.im (.int (i : Int)))) c = some (decide (((i % g : Nat) : Int) = more), c) := fun ys => by
    unfold stM
    simp only [ev_sB, ev_sOp, ev_sV, List.getElem?_cons_succ, List.getElem?_cons_zero, Option.bind_some, em, eqD_int]
  have t2 : ∀ ys, sB (sOp eqD (sOp modD (sV 7) (sV 2)) (sV 5)) (stM row g ys more less far (.im (.int (i : Int)))) c = some (decide (((i % g : Nat) : Int) = less), c) := fun ys => by
    unfold stM
    simp only [ev_sB, ev_sOp, ev_sV, List.getElem?_cons_succ, List.getElem?_cons_zero, Option.bind_some, em, eqD_int]
  refine then_run (ρ1 := stM row g (xs.set i (gI xs i + dlt more less far (i % g))) more less far (.im (.int (i : Int)))) (seq_run (ρ1 := stM row g (xs.set i (gI xs i + if ((i % g : Nat) : Int) = more then far else 0)) more less far (.im (.int (i : Int)))) (c1 := c) ?_ ?_) rfl
  · by_cases h : ((i % g : Nat) : Int) = more
    · rw [if_pos h]
      exact DL.ifT (by rw [t1, decide_eq_true h]) (one (v := 0) rfl)
    · rw [if_neg h, Int.add_zero, set_gI hi]
      exact DL.ifF (by rw [t1, decide_eq_false h]) rfl
  · unfold dlt
    generalize (if ((i % g : Nat) : Int) = more then far else 0) = A
    by_cases h : ((i % g : Nat) : Int) = less
    · rw [if_pos h]
      refine DL.ifT (by rw [t2, decide_eq_true h]) ?_
      rw [two (by rw [List.length_set]), gI_set hi, if_pos rfl, List.set_set]
      congr 5
      omega
    · rw [if_neg h, Int.add_zero]
      exact DL.ifF (by rw [t2, decide_eq_false h]) rfl
theorem F_l_moved_eq (hl : row.length ≤ 24) (hg : 1 ≤ g) (hg2 : g ≤ 24) (hc : OkDr c) : ∃ row' c', F_l_moved [.tuple (iL row), .int (g : Int)] c = some (.tuple (iL row'), c') ∧ OkDr c' ∧ row'.length = row.length ∧ ∃ δ : Nat → Int, sumN g δ = 0 ∧ ∀ p, p < row.length → gI row' p = gI row p + δ (p % g) := by
  have key : ∃ row' : List Int, ∃ c', Runs S_l_moved (.dr :: ([PyData.tuple (iL row), .int (g : Int)].map .im ++ List.replicate 5 .un)) c (fun r => ∃ d, r.1 = .rt d ∧ (d = .tuple (iL row') ∧ r.2.2 = c')) ∧ OkDr c' ∧ row'.length = row.length ∧ ∃ δ : Nat → Int, sumN g δ = 0 ∧ ∀ p, p < row.length → gI row' p = gI row p + δ (p % g) := by
    unfold S_l_moved
    have s0 : sAsgL (sListOf (sCons (sV 1) sNil)) 3 (.dr :: ([PyData.tuple (iL row), .int (g : Int)].map .im ++ List.replicate 5 .un)) c = some (.nx, [.dr, .im (.tuple (iL row)), .im (.int (g : Int)), .ol (iL row), .un, .un, .un, .un], c) := by
      simp
    have fin : ∀ {xs : List Int} {c' : Dr} {s4 s5 s6 s7 : Sl}, Runs (sFrz 3 (sRet (sCB tupleD (sCons (sV 3) sNil)))) [.dr, .im (.tuple (iL row)), .im (.int (g : Int)), .ol (iL xs), s4, s5, s6, s7] c' (fun r => ∃ d, r.1 = .rt d ∧ (d = .tuple (iL xs) ∧ r.2.2 = c')) := fun {xs c' s4 s5 s6 s7} => .frz rfl (.ret (d := .tuple (iL xs)) (c1 := c') (by simp) ⟨_, rfl, rfl, rfl⟩)
    by_cases h : 1 < g
    · obtain ⟨_, c1, e1, more, rfl, m0, m1, ok1⟩ := F_l_draw_eq (m := (g : Int)) (by omega) (by omega) hc
      obtain ⟨_, c2, e2, less, rfl, l0, l1, ok2⟩ := F_l_draw_eq (m := (g : Int)) (by omega) (by omega) ok1
      obtain ⟨_, c3, e3, far, rfl, f0, f1, ok3⟩ := F_l_draw_eq (m := 9) (by decide) (by decide) ok2
      have ol : okR ((row.length : Nat) : Int) = true := okR_of (by omega) (by omega)
      obtain ⟨ρ', c', e, rfl, xs, rfl, hxl, hx⟩ := for_inv (c := c3) (c1 := c3) (fi := sR1 (sCons (sCB lenD (sCons (sV 1) sNil)) sNil)) (tg := qN 7) (body := movB) (ρ := stM row g row more less (1 + far) .un) (xs := rngL 0 row.length) (fun i ρ c => c = c3 ∧ ∃ xs : List Int, ρ = stM row g xs more less (1 + far) .un ∧ xs.length = row.length ∧ ∀ p, p < row.length → gI xs p = if p < i then gI row p + dlt more less (1 + far) (p % g) else gI row p) (by
        unfold stM
        simp only [ev_sR1, ev_sCons, ev_sNil, ev_sCB, ev_sV, List.getElem?_cons_succ, List.getElem?_cons_zero, Option.bind_some, ev_lenT, iL_len, ol, if_true, Int.toNat_natCast]) ⟨rfl, row, rfl, rfl, fun p _ => by rw [if_neg (by omega)]⟩ (fun i x ρ c hx hI => by
        obtain ⟨rfl, xs, rfl, hxl, hv⟩ := hI
        obtain ⟨hi, rfl⟩ := rngL_lt hx
        rw [show (0 : Int) + (i : Int) = (i : Int) by omega]
        refine ⟨_, _, _, rfl, mov_step hg (by omega), rfl, _, rfl, by rw [List.length_set]; exact hxl, fun p hp => ?_⟩
        rw [gI_set (by omega)]
        by_cases z : p = i
        · subst z
          rw [if_pos rfl, if_pos (by omega), hv p hp, if_neg (by omega)]
        · rw [if_neg z, hv p hp]
          by_cases z2 : p < i
          · rw [if_pos z2, if_pos (by omega)]
          · rw [if_neg z2, if_neg (by omega)])
      rw [rngL_len] at hx
      refine ⟨xs, c', .seq s0 (.seq (ρ1 := [.dr, .im (.tuple (iL row)), .im (.int (g : Int)), .ol (iL xs), .un, .un, .un, .un]) (c1 := c') (DL.ifT (c1 := c) ?_ (then_run (seq_run (ρ1 := stM row g row more less (1 + far) .un) (c1 := c') ?_ e) rfl)) fin), ok3, hxl, _, dlt_sum m0 m1 l0 l1, fun p hp => by rw [hx p hp, if_pos hp]⟩
      · simp
        omega
      · simp only [ev_sMany, ev_sAvP, ev_sAvNil, ev_sCallD, ev_sCons, ev_sNil, ev_sV, ev_sC, ev_sOp, List.getElem?_cons_succ, List.getElem?_cons_zero, Option.bind_some, e1, e2, e3, ev_addII, List.length_cons, List.length_nil, if_true, ev_setAv, ev_setAv0, ev_slP, List.set_cons_succ, List.set_cons_zero]
        rfl
    · refine ⟨row, c, .seq s0 (.seq (DL.ifF (c1 := c) ?_ rfl) fin), hc, rfl, fun _ => 0, by rw [sumN_const]; simp, fun p _ => (Int.add_zero _).symm⟩
      simp
      omega
  obtain ⟨row', c', ⟨⟨fl, ρ, c2⟩, e, d, h1, h2, h3⟩, ok, hl', hδ⟩ := key
  have h1 : fl = .rt d := h1
  have h3 : c2 = c' := h3
  subst h1 h2 h3
  refine ⟨row', c2, ?_, ok, hl', hδ⟩
  show bodyD 2 5 S_l_moved _ c = _
  unfold bodyD
  rw [if_pos (show [PyData.tuple (iL row), PyData.int ↑g].length = 2 from rfl), e]
  rfl
end
section
variable {P : Nat} {ts : List TF} {B : Int} {c : Dr}
/-- told frames by form, numbers up to B -/
structure TB (P : Nat) (ts : List TF) (B : Int) : Prop where
  n1 : 1 ≤ ts.length
  n3 : ts.length ≤ 3
  f : ∀ t ∈ ts, 1 ≤ t.1 ∧ t.1 ≤ P ∧ t.2.length = P - t.1 + 1 ∧ ∀ x ∈ t.2, -B ≤ x ∧ x ≤ B
theorem TB.tok (h : TB P ts B) (hP : P ≤ 24) (hB : B ≤ 24300) : TOk P ts := ⟨hP, h.n3, fun t ht => by
  obtain ⟨a, b, d, e⟩ := h.f t ht
  exact ⟨a, b, d, fun x hx => by have := e x hx; omega⟩⟩
abbrev bentB : SS := sThen [4, 5] (sSeq (sAsg (sCallD F_l_draw 0 (sCons (sFl 3 (sCB lenD (sCons (sV 3) sNil))) sNil)) (qN 5))
 (sSetI 3 (sV 5) (sOp addD (sIxO 3 (sV 5)) (sCallD F_l_of 0 (sCons (sLst (sCons (sC (.int 1)) (sCons (sUn negD (sC (.int 1))) (sCons (sC (.int 2)) (sCons (sC (.int 50)) sNil))))) sNil)))))
theorem F_l_bent_eq (h : TB P ts B) (hP : P ≤ 24) (hB : 0 ≤ B) (hc : OkDr c) : ∃ ts' c', F_l_bent [tsD ts] c = some (tsD ts', c') ∧ OkDr c' ∧ TB P ts' (B + 100) ∧ ts'.map (·.1) = ts.map (·.1) := by
  obtain ⟨_, c1, e1, at', rfl, a0, a1, ok1⟩ := F_l_draw_eq (m := (ts.length : Int)) (by have := h.n1; omega) (by have := h.n3; omega) hc
  obtain ⟨a, rfl⟩ : ∃ a : Nat, at' = (a : Int) := ⟨at'.toNat, by omega⟩
  have ha : a < ts.length := by omega
  have hta : ts[a]? = some ts[a] := List.getElem?_eq_getElem ha
  obtain ⟨t1, t2, t3, t4⟩ := h.f _ (List.mem_of_getElem? hta)
  generalize ts[a] = t at hta t1 t2 t3 t4
  obtain ⟨_, c2, e2, r, rfl, r0, r1, ok2⟩ := F_l_draw_eq (m := 2) (by decide) (by decide) ok1
  have hat : atI (ts.map tfD) (a : Int) = some (.tuple [.int (t.1 : Int), .tuple (iL t.2)]) := atI_nat (by rw [List.getElem?_map, hta]; rfl)
  have h1 : atI [PyData.int (t.1 : Int), .tuple (iL t.2)] 1 = some (.tuple (iL t.2)) := atI_nat (j := 1) rfl
  have h0 : atI [PyData.int (t.1 : Int), .tuple (iL t.2)] 0 = some (.int (t.1 : Int)) := atI_nat (j := 0) rfl
  have or : okR (1 + r) = true := okR_of (by omega) (by omega)
  have f4 : few 4 = true := by decide
  obtain ⟨ρ', c', e, ok', cs, rfl, hcl, hcb⟩ := for_inv (c := c1) (c1 := c2) (fi := sR1 (sCons (sOp addD (sC (.int 1)) (sCallD F_l_draw 0 (sCons (sC (.int 2)) sNil))) sNil)) (tg := qN 4) (body := bentB) (ρ := [.dr, .im (tsD ts), .im (.int (a : Int)), .ol (iL t.2), .un, .un]) (xs := rngL 0 (1 + r).toNat) (fun i ρ c => OkDr c ∧ ∃ cs : List Int, ρ = [.dr, .im (tsD ts), .im (.int (a : Int)), .ol (iL cs), .un, .un] ∧ cs.length = t.2.length ∧ ∀ x ∈ cs, -(B + 50 * (i : Int)) ≤ x ∧ x ≤ B + 50 * (i : Int)) (by
    simp only [ev_sR1, ev_sCons, ev_sNil, ev_sOp, ev_sC, ev_sCallD, List.getElem?_cons_succ, List.getElem?_cons_zero, Option.bind_some, e2, ev_addII, or, if_true]) ⟨ok2, t.2, rfl, rfl, fun x hx => by have := t4 x hx; omega⟩ (fun i x ρ c hx hI => by
    obtain ⟨ok, cs, rfl, hcl, hcb⟩ := hI
    obtain ⟨_, c3, e3, s', rfl, s0, s1, ok3⟩ := F_l_draw_eq (m := ((cs.length : Nat) : Int)) (by omega) (by omega) ok
    obtain ⟨s, rfl⟩ : ∃ s : Nat, s' = (s : Int) := ⟨s'.toNat, by omega⟩
    obtain ⟨d, c4, e4, hd, ok4⟩ := F_l_of_eq (ds := [.int 1, .int (-1), .int 2, .int 50]) (c := c3) (by simp) (by simp) ok3
    obtain ⟨v, rfl, v0, v1⟩ : ∃ v : Int, d = .int v ∧ -1 ≤ v ∧ v ≤ 50 := by
      simp only [List.mem_cons, List.not_mem_nil, or_false] at hd
      rcases hd with rfl | rfl | rfl | rfl
      · exact ⟨1, rfl, by decide, by decide⟩
      · exact ⟨-1, rfl, by decide, by decide⟩
      · exact ⟨2, rfl, by decide, by decide⟩
      · exact ⟨50, rfl, by decide, by decide⟩
    have hs : s < cs.length := by omega
    have as : atI (iL cs) (s : Int) = some (.int (gI cs s)) := atI_iL hs
    have ix : ixN (iL cs).length (s : Int) = some s := ixN_nat (by rw [iL_len]; exact hs)
    refine ⟨_, [.dr, .im (tsD ts), .im (.int (a : Int)), .ol (iL (cs.set s (gI cs s + v))), .un, .un], c4, rfl, then_run (ρ1 := [.dr, .im (tsD ts), .im (.int (a : Int)), .ol (iL (cs.set s (gI cs s + v))), .im x, .im (.int (s : Int))]) (seq_run (ρ1 := [.dr, .im (tsD ts), .im (.int (a : Int)), .ol (iL cs), .im x, .im (.int (s : Int))]) (c1 := c3) ?_ ?_) rfl, ok4, _, rfl, by rw [List.length_set]; exact hcl, fun y hy => ?_⟩
    · simp only [ev_sAsg, ev_sCallD, ev_sCons, ev_sNil, ev_sFl, ev_sCB, ev_sV, ev_qN, List.set_cons_succ, List.set_cons_zero, List.getElem?_cons_succ, List.getElem?_cons_zero, Option.bind_some, ev_lenL, iL_len, flatD, if_true, e3]
    · simp only [ev_sSetI, ev_sOp, ev_sIxO, ev_sV, ev_sCallD, ev_sCons, ev_sNil, ev_sLst, ev_sC, ev_sUn, ev_negI, List.getElem?_cons_succ, List.getElem?_cons_zero, Option.bind_some, as, List.length_cons, List.length_nil, Nat.zero_add, f4, if_true, e4, ev_addII, ix, iL_set, List.set_cons_succ, List.set_cons_zero]
    · rcases List.mem_or_eq_of_mem_set hy with w | w
      · have := hcb y w; omega
      · have := hcb _ (gI_mem hs)
        rw [w]; omega)
  rw [rngL_len] at hcb
  have hset : ts.set a (t.1, cs) = ts.take a ++ (t.1, cs) :: ts.drop (a + 1) := by rw [List.set_eq_take_append_cons_drop, if_pos ha]
  refine ⟨ts.set a (t.1, cs), c', ?_, ok', ⟨by rw [List.length_set]; exact h.n1, by rw [List.length_set]; exact h.n3, fun u hu => ?_⟩, ?_⟩
  · have run : Runs S_l_bent (.dr :: ([tsD ts].map .im ++ List.replicate 4 .un)) c (fun r => ∃ d, r.1 = .rt d ∧ (d = tsD (ts.set a (t.1, cs)) ∧ r.2.2 = c')) := by
      unfold S_l_bent
      refine .seq (ρ1 := [.dr, .im (tsD ts), .im (.int (a : Int)), .un, .un, .un]) (c1 := c1) ?_ (.seq (ρ1 := [.dr, .im (tsD ts), .im (.int (a : Int)), .ol (iL t.2), .un, .un]) (c1 := c1) ?_ (.seq e (.frz rfl (.ret (d := tsD (ts.set a (t.1, cs))) (c1 := c') ?_ ⟨_, rfl, rfl, rfl⟩))))
      · simp only [ev_sAsg, ev_sCallD, ev_sCons, ev_sNil, ev_sCB, ev_sV, List.map_cons, List.map_nil, List.cons_append, List.nil_append, List.replicate_succ, List.replicate_zero, List.getElem?_cons_succ, List.getElem?_cons_zero, Option.bind_some, tsD, ev_lenT, List.length_map, e1, ev_qN, List.set_cons_succ, List.set_cons_zero]
      · simp only [ev_sAsgL, ev_sListOf, ev_sCons, ev_sNil, ev_sOp, ev_sV, ev_sC, List.getElem?_cons_succ, List.getElem?_cons_zero, Option.bind_some, tsD, ev_ixT, hat, h1, List.set_cons_succ, List.set_cons_zero]
      · have ct : cutL (ts.map tfD) none (some (a : Int)) = (ts.take a).map tfD := by rw [cut_to (by rw [List.length_map]; omega), List.map_take]
        have cf : cutL (ts.map tfD) (some ((a : Int) + 1)) none = (ts.drop (a + 1)).map tfD := by
          have := cut_from (xs := ts.map tfD) (n := a + 1) (by rw [List.length_map]; omega)
          rw [List.map_drop]
          exact this
        have f1 : few 1 = true := by decide
        have f2 : few 2 = true := by decide
        have n3 := h.n3
        have l1 : ((ts.take a).map tfD).length = a := by rw [List.length_map, List.length_take]; omega
        have l2 : ((ts.drop (a + 1)).map tfD).length = ts.length - (a + 1) := by rw [List.length_map, List.length_drop]
        have fa : few (a + 1) = true := few_of (by omega)
        have fb : few (a + 1 + (ts.length - (a + 1))) = true := few_of (by omega)
        have ed : tsD (ts.set a (t.1, cs)) = .tuple (((ts.take a).map tfD ++ [.tuple [.int (t.1 : Int), .tuple (iL cs)]]) ++ (ts.drop (a + 1)).map tfD) := by
          unfold tsD
          rw [hset, List.map_append, List.map_cons, List.append_assoc]; rfl
        rw [ed]
        simp only [ev_sOp, ev_sSl, ev_sNoP, ev_sP, ev_sV, ev_sC, ev_sTup, ev_sCons, ev_sNil, ev_sCB, List.set_cons_succ, List.set_cons_zero, List.getElem?_cons_succ, List.getElem?_cons_zero, Option.bind_some, tsD, ev_slT, ct, ev_ixT, hat, h0, ev_tupL, List.length_cons, List.length_nil, Nat.zero_add, f2, f1, if_true, ev_addTT, l1, fa, ev_addII, cf, List.length_append, l2, fb]
    obtain ⟨⟨fl, ρ, c2'⟩, er, d, h1', h2', h3'⟩ := run
    have h1' : fl = .rt d := h1'
    have h3' : c2' = c' := h3'
    subst h1' h2' h3'
    show bodyD 1 4 S_l_bent _ c = _
    unfold bodyD
    rw [if_pos (show [tsD ts].length = 1 from rfl), er]
    rfl
  · rcases List.mem_or_eq_of_mem_set hu with w | w
    · obtain ⟨a1, a2, a3, a4⟩ := h.f u w
      exact ⟨a1, a2, a3, fun x hx => by have := a4 x hx; omega⟩
    · rw [w]
      exact ⟨t1, t2, by rw [← t3]; exact hcl, fun x hx => by have := hcb x hx; omega⟩
  · rw [List.map_set]
    refine List.ext_getElem? fun j => ?_
    rw [List.getElem?_set]
    split
    · rename_i q
      subst q
      rw [List.getElem?_map, hta, if_pos (by rw [List.length_map]; exact ha)]; rfl
    · rfl
end
end X
namespace X
open PySem PySem.Spec L2 DL DM
def tfOf (row : List Int) (l : Int) : TF := (l.toNat, csL l.toNat row)
section
variable {P : Nat} {ts : List TF} {ls row : List Int}
theorem cnt_bound {f s : Nat} (hb : ∀ x ∈ row, -1000 ≤ x ∧ x ≤ 1000) (hs : s + f ≤ row.length) : -(1000 * (f : Int)) ≤ cnt f (gI row) s ∧ cnt f (gI row) s ≤ 1000 * (f : Int) := by
  have h1 : sumN f (fun _ => -1000) ≤ cnt f (gI row) s := sumN_le fun i hi => (hb _ (gI_mem (by omega))).1
  have h2 : cnt f (gI row) s ≤ sumN f (fun _ => 1000) := sumN_le fun i hi => (hb _ (gI_mem (by omega))).2
  rw [sumN_const] at h1 h2
  omega
/-- the told frames of a row -/
theorem tb_of (hP : P ≤ 24) (h1 : 1 ≤ ls.length) (h3 : ls.length ≤ 3) (hl : ∀ l ∈ ls, 1 ≤ l ∧ l ≤ P) (hr : row.length = P) (hb : ∀ x ∈ row, -1000 ≤ x ∧ x ≤ 1000) : TB P (ls.map (tfOf row)) 24000 := by
  refine ⟨by rw [List.length_map]; exact h1, by rw [List.length_map]; exact h3, fun t ht => ?_⟩
  obtain ⟨l, hm, rfl⟩ := List.mem_map.mp ht
  obtain ⟨a, b⟩ := hl l hm
  refine ⟨by show 1 ≤ l.toNat; omega, by show l.toNat ≤ P; omega, by show (csL l.toNat row).length = P - l.toNat + 1; rw [csL_len, hr], fun x hx => ?_⟩
  obtain ⟨s, hs⟩ := List.getElem?_of_mem hx
  have hs1 : s < (csL l.toNat row).length := (List.getElem?_eq_some_iff.mp hs).1
  rw [csL_len] at hs1
  have e : x = cnt l.toNat (gI row) s := by
    have := csL_get (f := l.toNat) (row := row) hs1
    rw [← this]
    have hs' : (csL l.toNat row)[s]? = some x := hs
    unfold gI
    rw [List.getD_eq_getElem?_getD, hs']; rfl
  have := cnt_bound (f := l.toNat) (s := s) hb (by omega)
  rw [e]
  omega
theorem long_of (h1 : 1 ≤ ls.length) (h3 : ls.length ≤ 3) (hl : ∀ l ∈ ls, 1 ≤ l ∧ l ≤ P) (hg : LgI P ls) (hp : ls.Pairwise (· < ·)) : LongL P ((ls.map (tfOf row)).map (·.1)) := by
  have gcdN : ∀ {a b : Int}, 1 ≤ a → 1 ≤ b → Int.gcd a b = Nat.gcd a.toNat b.toNat := fun {a b} ha hb => by
    obtain ⟨m, rfl⟩ := Int.eq_ofNat_of_zero_le (show 0 ≤ a by omega)
    obtain ⟨n, rfl⟩ := Int.eq_ofNat_of_zero_le (show 0 ≤ b by omega)
    rfl
  match ls, h1, h3 with
  | [a], _, _ =>
    have := hl a (by simp)
    exact ⟨by show 1 ≤ a.toNat; omega, by show a.toNat ≤ P; omega⟩
  | [a, b], _, _ =>
    have ha := hl a (by simp)
    have hb := hl b (by simp)
    have hab : a < b := (List.pairwise_cons.mp hp).1 b (by simp)
    have hg' : a + b - (Int.gcd b a : Nat) ≤ P := by
      rcases hg with z | z
      · simp at z
      · exact z
    rw [gcdN hb.1 ha.1, Nat.gcd_comm] at hg'
    exact ⟨by show 1 ≤ a.toNat; omega, by show a.toNat < b.toNat; omega, by show b.toNat ≤ P; omega, by show a.toNat + b.toNat ≤ P + Nat.gcd a.toNat b.toNat; omega⟩
  | [a, b, c], _, _ =>
    have ha := hl a (by simp)
    have hb := hl b (by simp)
    have hc := hl c (by simp)
    have hab : a < b := (List.pairwise_cons.mp hp).1 b (by simp)
    have hbc : b < c := (List.pairwise_cons.mp (List.pairwise_cons.mp hp).2).1 c (by simp)
    have hg' : b + c - (Int.gcd c b : Nat) ≤ P := by
      rcases hg with z | z
      · simp at z
      · exact z
    rw [gcdN hc.1 hb.1, Nat.gcd_comm] at hg'
    exact ⟨by show 1 ≤ a.toNat; omega, by show a.toNat < b.toNat; omega, by show b.toNat < c.toNat; omega, by show c.toNat ≤ P; omega, by show b.toNat + c.toNat ≤ P + Nat.gcd b.toNat c.toNat; omega⟩
theorem lg_of (h : LongL P (ts.map (·.1))) : Lg P ts := by
  match ts, h with
  | [a], _ => exact .inl (Nat.le_refl _)
  | [a, b], h =>
    obtain ⟨_, _, _, h4⟩ := h
    refine .inr ?_
    show ((a.1 : Int) + (b.1 : Int) - ((Int.gcd (a.1 : Int) (b.1 : Int) : Nat) : Int)) ≤ P
    have : Int.gcd (a.1 : Int) (b.1 : Int) = Nat.gcd a.1 b.1 := rfl
    rw [this]
    have h4 : a.1 + b.1 ≤ P + Nat.gcd a.1 b.1 := h4
    omega
  | [a, b, c], h =>
    obtain ⟨_, _, _, _, h4⟩ := h
    refine .inr ?_
    show ((b.1 : Int) + (c.1 : Int) - ((Int.gcd (b.1 : Int) (c.1 : Int) : Nat) : Int)) ≤ P
    have : Int.gcd (b.1 : Int) (c.1 : Int) = Nat.gcd b.1 c.1 := rfl
    rw [this]
    have h4 : b.1 + c.1 ≤ P + Nat.gcd b.1 c.1 := h4
    omega
theorem sol_row (hl : ∀ l ∈ ls, 1 ≤ l ∧ l ≤ P) (hr : row.length = P) : Sol P (ls.map (tfOf row)) 1 (gI row) := fun t ht s hs => by
  obtain ⟨l, hm, rfl⟩ := List.mem_map.mp ht
  obtain ⟨a, b⟩ := hl l hm
  show cnt l.toNat (gI row) s = 1 * gI (csL l.toNat row) s
  have hs' : s + l.toNat ≤ P := hs
  rw [csL_get (by omega), Int.one_mul]
/-- of a row's own told frames the one frame has the row's own counts -/
theorem one_row (hP : P ≤ 24) (h1 : 1 ≤ ls.length) (h3 : ls.length ≤ 3) (hl : ∀ l ∈ ls, 1 ≤ l ∧ l ≤ P) (hg : LgI P ls) (hp : ls.Pairwise (· < ·)) (hr : row.length = P) (hb : ∀ x ∈ row, -1000 ≤ x ∧ x ≤ 1000) :
    F_as_one [.int (P : Int), tsD (ls.map (tfOf row))] = some (.tuple [.int (gcdL ((ls.map (tfOf row)).map (·.1)) : Nat), .tuple (iL (csL (gcdL ((ls.map (tfOf row)).map (·.1))) row))]) ∧ F_weights [.int (P : Int), tsD (ls.map (tfOf row))] = some .none := by
  have hLL := long_of (row := row) h1 h3 hl hg hp
  have hT := (tb_of hP h1 h3 hl hr hb).tok hP (by decide)
  have hS := sol_row (row := row) hl hr
  have hgp := gcdL_pos hLL
  have hgP : ∀ f ∈ (ls.map (tfOf row)).map (·.1), gcdL ((ls.map (tfOf row)).map (·.1)) ≤ P := fun f hf => Nat.le_trans (Nat.le_of_dvd (long_mem hLL f hf).1 (gcdL_dvd hf)) (long_mem hLL f hf).2
  obtain ⟨f0, hf0⟩ := List.exists_mem_of_ne_nil _ (long_ne hLL)
  have hgP := hgP f0 hf0
  rcases one_or hT (lg_of hLL) hLL with ⟨x, L, e1, e2, hL, hpot, hx⟩ | ⟨_, hno, _⟩
  · refine ⟨?_, e2⟩
    rw [e1]
    obtain ⟨x', hx', hs'⟩ := sol_one hLL hpot (show (1 : Int) ≠ 0 by decide) hS
    have exx : x = x' := by
      obtain ⟨t, ht, rfl⟩ := List.mem_map.mp hf0
      have a := (hx t ht).symm.trans (hx' t ht)
      have hd : 1 ≤ t.1 / gcdL ((ls.map (tfOf row)).map (·.1)) := Nat.div_pos (Nat.le_of_dvd (long_mem hLL _ hf0).1 (gcdL_dvd hf0)) hgp
      exact Int.eq_of_mul_eq_mul_right (by omega) a
    have hper : ∀ p, p < P → gI row p - gI L p = gI row (p % gcdL ((ls.map (tfOf row)).map (·.1))) := fun p hp' => by
      have := per_all (z := fun q => gI row q - gI L q) hLL (fun f hf s hs => by
        obtain ⟨t, ht, rfl⟩ := List.mem_map.mp hf
        have a := hpot.edge t ht s hs
        have b := sol_edge hS ht hs
        show gI row s - gI L s = gI row (s + t.1) - gI L (s + t.1)
        omega) p hp'
      have hz := hpot.zero (p % gcdL ((ls.map (tfOf row)).map (·.1))) (Nat.mod_lt _ hgp)
      have this : gI row p - gI L p = gI row (p % gcdL ((ls.map (tfOf row)).map (·.1))) - gI L (p % gcdL ((ls.map (tfOf row)).map (·.1))) := this
      rw [this, hz]; omega
    rw [Int.one_mul, ← exx] at hs'
    generalize gcdL ((ls.map (tfOf row)).map (·.1)) = g at *
    have ec : cOne P g x L = csL g row := by
      refine gI_ext (by rw [csL_len, hr]; unfold cOne; rw [List.length_map, List.length_range]) fun s hs => ?_
      have hs : s < P - g + 1 := by
        have : (cOne P g x L).length = P - g + 1 := by unfold cOne; rw [List.length_map, List.length_range]
        omega
      rw [csL_get (by rw [hr]; exact hs)]
      have : gI (cOne P g x L) s = cnt g (oneRow g x (gI L)) s := by unfold cOne gI; simp [List.getD, hs]
      rw [this]
      obtain ⟨φ, hφ⟩ : ∃ φ : Nat → Int, ∀ r, φ r = gI row r - if r = 0 then x else 0 := ⟨_, fun r => rfl⟩
      have key : cnt g (gI row) s = cnt g (oneRow g x (gI L)) s + sumN g (fun j => φ ((s + j) % g)) := by
        unfold cnt
        rw [← sumN_add]
        refine sumN_congr fun j hj => ?_
        have := hper (s + j) (by omega)
        have h2 := hφ ((s + j) % g)
        show gI row (s + j) = (gI L (s + j) + if (s + j) % g = 0 then x else 0) + φ ((s + j) % g)
        omega
      have z : sumN g φ = 0 := by
        have a : sumN g (gI row) = sumN g φ + sumN g (fun r => if r = 0 then x else 0) := by
          rw [← sumN_add]
          exact sumN_congr fun r _ => by have := hφ r; omega
        rw [sumN_if0 hgp] at a
        omega
      rw [win_one hgp, z] at key
      omega
    show some (oneD P g x L) = _
    unfold oneD
    rw [ec]
  · exact absurd ⟨_, hS⟩ hno
/-- a row that is moved within the threads: the same counts by each length -/
theorem moved_same {row' : List Int} {g f : Nat} {δ : Nat → Int} (hg : 1 ≤ g) (hd : g ∣ f) (hl : row'.length = row.length) (hf : f ≤ row.length) (h0 : sumN g δ = 0) (h : ∀ p, p < row.length → gI row' p = gI row p + δ (p % g)) : csL f row' = csL f row := by
  refine gI_ext (by rw [csL_len, csL_len, hl]) fun s hs => ?_
  rw [csL_len, hl] at hs
  rw [csL_get (by omega), csL_get hs]
  obtain ⟨k, rfl⟩ := hd
  have e : cnt (g * k) (gI row') s = cnt (g * k) (gI row) s + sumN (g * k) (fun j => δ ((s + j) % g)) := by
    unfold cnt
    rw [← sumN_add]
    exact sumN_congr fun j hj => h (s + j) (by omega)
  rw [e, Nat.mul_comm g k, win_per hg k s, h0, Int.mul_zero, Int.add_zero]
end
end X
/-! EXa: iterators that end while an exception is handled. -/
namespace EX
open PySem PySem.Spec PyProof.Rows HotX
section
variable {prog : Program} {w : World} {A : Around} {E : Value → Shared → Prop} {s : Shared}
theorem stop_hot {α : Type} {x1 : Addr} {Q : α → Shared → Prop} (hot : HotAt A x1 s.heap) (k : ∀ h' e, (∀ b o, s.heap.get? b = some o → h'.get? b = some o) → (∃ o, h'.get? e = some o ∧ o.cls = .type "StopIteration") → E (.ref e) { s with heap := h' }) :
    wpAny (model prog w) A (newExc (.type "StopIteration") [] >>= fun e => (raiseNew e : Sem α)) Q E s := by
  obtain ⟨ha, ob, us, g1, g2, g3⟩ := hot
  refine wpAny_bind ?_; simp only [newExc, newTuple]
  refine wpAny_bind (wpAny_newObj_type (wpAny_bind (m := firstArgMember _ _) (wpAny_of_eq (a := Value.none) (by first | rfl | (simp only [firstArgMember]; rfl)) (wpAny_newObj_type ?_ (by size_fits)))) (by size_fits))
  refine raiseNew_hot ⟨ha, ob, us, Heap.get?_push_of_some _ (Heap.get?_push_of_some _ g1), g2, g3⟩ (Nat.ne_of_lt (Heap.lt_size (Heap.get?_push_of_some _ g1))) (Heap.get?_push_size _ rfl) rfl (by first | (simp; done) | (simp; omega)) (k _ _ (fun b o e => ?_) ⟨_, Heap.get?_update_self _ (Heap.get?_push_size _ rfl) rfl, rfl⟩)
  rw [Heap.get?_update_other _ _ (Nat.ne_of_gt (Heap.lt_size (Heap.get?_push_of_some _ e)))]; exact Heap.get?_push_of_some _ (Heap.get?_push_of_some _ e)
theorem hot_sub {x1 : Addr} {h h' : Heap} {it : Addr} (hot : HotAt A x1 h) (ne : x1 ≠ it) (e : Heap.ExtBut it h h') : HotAt A x1 h' := by
  obtain ⟨ha, ob, us, g1, g2, g3⟩ := hot
  exact ⟨ha, ob, us, e x1 ob ne g1, g2, g3⟩
theorem hot_in {x1 : Addr} {h : Heap} (hot : HotAt A x1 h) : HotAt A.in1 x1 h := hot
/-- the next item of a list's iterator: none -/
theorem nextOf_end_hot {it l x1 : Addr} {i : Nat} {items : Array Value} {Q : Value → Shared → Prop} (hot : HotAt A x1 s.heap) (ne : x1 ≠ it) (hit : s.heap.IsListIter it l i) (hl : s.heap.IsList l items) (hx : items[i]? = none)
    (k : ∀ h' e, (∀ b o, b ≠ it → s.heap.get? b = some o → h'.get? b = some o) → (∃ o, h'.get? e = some o ∧ o.cls = .type "StopIteration") → E (.ref e) { s with heap := h' }) :
    wpAny (model prog w) A (Builtin.SmallTypes.nextOf (.ref it)) Q E s := by
  obtain ⟨oi, g1, _, g2⟩ := id hit
  obtain ⟨ol, g3, _, nl, g4⟩ := hl
  unfold Builtin.SmallTypes.nextOf
  refine wpAny_bind (wpAny_callSpecial?_slot (name := Str.ofString "__next__") hit.typeIs slot_listiter_next (wpAny_call_entry slot_listiter_next hit.typeIs entry_listiter_next ?_ (args_listiter_next _)))
  show wpAny _ _ (field (.ref it) 0 >>= _) _ _ s; refine wpAny_bind (wpAny_field g1 g2 (x := .ref l) rfl ?_)
  show wpAny _ _ (if (Value.ref l == Value.none) = true then _ else _) _ _ s; rw [if_neg (show ¬ ((Value.ref l == Value.none) = true) from Bool.false_ne_true)]
  show wpAny _ _ (field (.ref it) 1 >>= _) _ _ s; refine wpAny_bind (wpAny_field g1 g2 (x := .int i 0) rfl (wpAny_bind (wpAny_seqItems g3 g4 ?_)))
  simp only [Int.toNat_natCast, hx]
  refine wpAny_bind (wpAny_rule (wpAny_bind (wpAny_setField g1 g2 (by simp) ?_)))
  refine stop_hot (hot_sub hot ne (Heap.SameBut.update ..).extBut) fun h' e hk he => k h' e (fun b o hb q => hk b o ((Heap.SameBut.update ..).extBut b o hb q)) he
end
end EX
/-! EXb: zip's end and a pair taken apart, while an exception is handled. -/
namespace EX
open PySem PySem.Spec PyProof.Rows HotX
section
variable {prog : Program} {w : World} {A : Around} {E : Value → Shared → Prop} {s : Shared}
theorem zipNext_end_hot {z TI TO i1 i2 l1 l2 x1 : Addr} {k1 : Nat} {xs : Array Value} {Q : Fin → Shared → Prop} (hot : HotAt A x1 s.heap) (nz : x1 ≠ z) (ni : x1 ≠ i1) (D : ZipApart z TI TO i1 i2 l1 l2) (hz : IsZip s.heap z TI TO .none) (hTI : IsPair s.heap TI (.ref i1) (.ref i2))
    (h1 : s.heap.IsListIter i1 l1 k1) (hl1 : s.heap.IsList l1 xs) (hend : xs[k1]? = none)
    (k : ∀ h' e, (∀ c o, c ≠ z → c ≠ i1 → s.heap.get? c = some o → h'.get? c = some o) → (∃ o, h'.get? e = some o ∧ o.cls = .type "StopIteration") → E (.ref e) { s with heap := h' }) :
    wpAny (model prog w) A (Builtin.«zip.__next__» ⟨[.ref z], []⟩) Q E s := by
  show wpAny _ _ (field (.ref z) 2 >>= _) _ _ _; refine wpAny_bind (wpAny_field hz rfl (x := .bool false) rfl ?_)
  show wpAny _ _ (field (.ref z) 3 >>= _) _ _ _; refine wpAny_bind (wpAny_field hz rfl (x := .ref TI) rfl (wpAny_bind (wpAny_seqItems hTI rfl ?_)))
  show wpAny _ _ (Builtin.SmallTypes.ownedTupleIsFree (.ref z) >>= _) _ _ _; refine wpAny_bind ?_; unfold Builtin.SmallTypes.ownedTupleIsFree
  refine wpAny_bind (wpAny_field hz rfl (x := .none) rfl (wpAny_pure ?_)); simp only [if_true]
  refine wpAny_bind (wpAny_rule (wpAny_bind (wpAny_field hz rfl (x := .ref TO) rfl (wpAny_bind (wpAny_setField_rec hz (by simp) fun ha za sa => wpAny_bind ?_)))))
  simp only [List.zipIdx_cons, List.zipIdx_nil, List.forIn_cons, List.forIn_nil]
  refine wpAny_bind (wpAny_bind (wpAny_onRaise ?_)); show wpAny _ _ (Builtin.SmallTypes.nextOf (.ref i1) >>= _) _ _ _
  refine wpAny_bind (nextOf_end_hot (x1 := x1) (hot_sub hot nz sa.extBut) ni (h1.extBut sa.extBut D.i1z) (hl1.extBut sa.extBut D.l1z) hend fun hb e kb he => ?_)
  obtain ⟨oe, he1, he2⟩ := he
  have zb : IsZip hb z TI TO .ellipsis := kb _ _ D.i1z.symm za
  have ne : e ≠ z := fun q => by
    rw [q, zb] at he1
    cases he1
    simp at he2
  exact wpAny_setField_rec zb (by simp) fun hc _ sc => k hc e (fun c o c1 c2 q => sc.extBut _ _ c1 (kb _ _ c2 (sa.extBut _ _ c1 q))) ⟨oe, sc.extBut _ _ ne he1, he2⟩
theorem pyNext_zip_end_hot {z TI TO i1 i2 l1 l2 x1 : Addr} {k1 : Nat} {xs : Array Value} {Q : Option Value → Shared → Prop} (hot : HotAt A x1 s.heap) (nz : x1 ≠ z) (ni : x1 ≠ i1) (D : ZipApart z TI TO i1 i2 l1 l2) (hz : IsZip s.heap z TI TO .none) (hTI : IsPair s.heap TI (.ref i1) (.ref i2))
    (h1 : s.heap.IsListIter i1 l1 k1) (hl1 : s.heap.IsList l1 xs) (hend : xs[k1]? = none)
    (k : ∀ h', (∀ c o, c ≠ z → c ≠ i1 → s.heap.get? c = some o → h'.get? c = some o) → Q none { s with heap := h' }) : wpAny (model prog w) A (pyNext (.ref z)) Q E s := by
  have hT : s.TypeIs (.ref z) "zip" := ⟨_, hz, rfl⟩
  unfold pyNext
  refine wpAny_bind (wpAny_attempt (wpAny_callSpecial?_slot (name := Str.ofString "__next__") hT F.slot_zip_next (wpAny_call_entry F.slot_zip_next hT F.entry_zip_next (zipNext_end_hot (x1 := x1) (hot_in hot) nz ni D hz hTI h1 hl1 hend fun h' e hk he => ?_) (F.args_zip_next_1 _))))
  obtain ⟨o, g1, g2⟩ := he
  exact wpAny_bind (wpAny_isInstance (T := "StopIteration") (b := true) ⟨o, g1, g2⟩ isSubtype_stop (wpAny_pure (k _ hk)))
/-- a tuple's iterator at its end -/
theorem tupNext_end_hot {it t x1 : Addr} {i : Nat} {items : Array Value} {Q : Option Value → Shared → Prop} (hot : HotAt A x1 s.heap) (ne : x1 ≠ it) (hit : IsTupIter s.heap it t i) (ht : IsTup s.heap t items) (hx : items[i]? = none)
    (k : ∀ h', Heap.ExtBut it s.heap h' → Q none { s with heap := h' }) : wpAny (model prog w) A (pyNext (.ref it)) Q E s := by
  obtain ⟨oi, g1, _, g2⟩ := id hit
  obtain ⟨ol, g3, _, nl, g4⟩ := ht
  unfold pyNext
  refine wpAny_bind (wpAny_attempt (wpAny_callSpecial?_slot (name := Str.ofString "__next__") hit.typeIs slot_tupleiter_next (wpAny_call_entry slot_tupleiter_next hit.typeIs entry_tupleiter_next ?_ (args_tupleiter_next _))))
  show wpAny _ _ (field (.ref it) 0 >>= _) _ _ s; refine wpAny_bind (wpAny_field g1 g2 (x := .ref t) rfl ?_)
  show wpAny _ _ (if (Value.ref t == Value.none) = true then _ else _) _ _ s; rw [if_neg (show ¬ ((Value.ref t == Value.none) = true) from Bool.false_ne_true)]
  show wpAny _ _ (field (.ref it) 1 >>= _) _ _ s; refine wpAny_bind (wpAny_field g1 g2 (x := .int i 0) rfl (wpAny_bind (wpAny_seqItems g3 g4 ?_)))
  simp only [Int.toNat_natCast, hx]
  refine wpAny_bind (wpAny_rule (wpAny_bind (wpAny_setField g1 g2 (by simp) ?_)))
  refine stop_hot (hot_sub (hot_in hot) ne (Heap.SameBut.update ..).extBut) fun h' e hk he => ?_
  obtain ⟨o, q1, q2⟩ := he
  exact wpAny_bind (wpAny_isInstance (T := "StopIteration") (b := true) ⟨o, q1, q2⟩ isSubtype_stop (wpAny_pure (k _ fun b o hb q => hk b o ((Heap.SameBut.update ..).extBut b o hb q))))
theorem unpack_hot {t x1 : Addr} {items : Array Value} {env : Env} {elts : List Expr} {pos : Pos} {kk : Nat} {Q : Unit → Shared → Prop} (hot : HotAt A x1 s.heap) (ht : IsTup s.heap t items) (hn : (assignEach elts env).length = items.size) (hstar : (assignEach elts env).findIdx? (·.1) = none)
    (k : ∀ h', Heap.ExtBut s.heap.objs.size s.heap h' → wpAny (model prog w) A (assignInOrder ((assignEach elts env).map (·.2)) items.toList) Q E { s with heap := h' }) :
    wpAny (model prog w) A (assign (.Tuple elts kk pos) env (.ref t)) Q E s := by
  have tl : t ≠ s.heap.objs.size := by obtain ⟨o, q, _⟩ := ht; exact Nat.ne_of_lt (Heap.lt_size q)
  have xl : x1 ≠ s.heap.objs.size := by obtain ⟨_, o, _, q, _⟩ := hot; exact Nat.ne_of_lt (Heap.lt_size q)
  rw [assign_Tuple]
  refine wpAny_bind (wpAny_standAt ?_)
  unfold unpack
  rw [hn, hstar]
  refine wpAny_bind (wpAny_holding ?_)
  unfold unpackItems
  refine wpAny_bind ?_
  unfold notIterableAtAll
  refine wpAny_bind (wpAny_specialOf ht.typeIs slot_tuple_iter.lookup (wpAny_pure ?_))
  simp only [Bool.false_eq_true, if_false]
  refine wpAny_bind (wpAny_holding (iter_tuple ht (wpAny_bind (wpAny_holding (draw_tuple tl items.size 0 _ _ ⟨_, Heap.get?_push_size _ rfl, rfl, rfl⟩ (ht.push _) (by omega) fun ha ia sa => ?_)))))
  have al : List.take items.size (List.drop 0 items.toList) = items.toList := by rw [List.drop_zero]; exact List.take_of_length_le (by simp)
  rw [al, if_neg (by simp)]
  have ta : IsTup ha t items := (ht.push _).extBut sa.extBut tl
  have hota : HotAt A x1 ha := by
    obtain ⟨q1, ob, us, q2, q3, q4⟩ := hot
    exact ⟨q1, ob, us, sa.extBut _ _ xl (Heap.get?_push_of_some _ q2), q3, q4⟩
  refine wpAny_bind (wpAny_holding (tupNext_end_hot (x1 := x1) hota xl ia ta (by simp) fun hb eb => ?_))
  simp only [Option.isSome_none, Bool.false_eq_true, if_false]
  exact wpAny_pure (k hb fun b o hb' q => eb b o hb' (sa.extBut b o hb' (Heap.get?_push_of_some _ q)))
end
end EX
/-! EXc: pairs, zip and comprehensions, while an exception is handled. -/
namespace EX
open PySem PySem.Spec PyProof.Rows L2 HotX L2H
theorem hot_at {X : Cx} {pins : List (Addr × Obj)} {σ : L2.St} {H : Hp} {s : Shared} (hc : HotC X) (I : Inv X pins σ H s) : ∃ p : Addr × Obj, p ∈ X.pn ∧ HotAt X.A p.1 s.heap := by
  obtain ⟨p, ⟨g1, us, g2, g3⟩, hp⟩ := hc
  exact ⟨p, hp, g1, p.2, us, (I.pin p (List.mem_append_left _ hp)).1, g2, g3⟩
section
variable {X : Cx} {pos : Pos}
theorem pg_tupH {es : List Expr} {k : Nat} {t : TGs} {n : Nat} (hc : HotC X) (h : PGs X es t) (hn : (assignEach es X.env).length = n := by rfl) (hst : (assignEach es X.env).findIdx? (·.1) = none := by rfl) : PG X (.Tuple es k pos) (gTup X.K n t) := by
  refine ⟨fun pins s σ H v u Q I r hw => ?_⟩
  obtain ⟨a, xs, rfl, hq, hl, hw⟩ := hw
  obtain rfl : u = Value.ref a := r
  obtain ⟨its, rv, ht, _⟩ := I.tuple hq
  obtain ⟨p, hp, hot⟩ := hot_at hc I
  have hsz : (assignEach es X.env).length = its.toArray.size := by rw [hn, ← hl, List.size_toArray, rv.length]
  refine unpack_hot (x1 := p.1) hot ht hsz hst fun h' hx => ?_
  have J : Inv X pins σ H { s with heap := h' } := I.kept (t' := s.toks) fun b o e => hx b o (Nat.ne_of_lt (Heap.lt_size e)) e
  exact h.run pins _ σ H xs _ Q J (by simpa using rv) hw
theorem turn_zipH {P : Program} {w : World} {K : PySem.W.Frag} {elts : List Expr} {kk : Nat} {tpos : Pos} {a b z TI TO i1 i2 : Addr} (D : ZipApart z TI TO i1 i2 a b) :
    TurnH P w K (.Tuple elts kk tpos) ⟨(Itz K a b).go, (Itz K a b).yld, fun i H => ∃ xs, SqL K H a xs ∧ xs.length ≤ i⟩ [z, TI, TO, i1, i2] z (fun i h => IsZip h z TI TO .none ∧ IsPair h TI (.ref i1) (.ref i2) ∧ (∃ x y, IsPair h TO x y) ∧ h.IsListIter i1 a i ∧ h.IsListIter i2 b i) where
  mem := List.mem_cons_self
  obj := (turn_zip (P := P) (w := w) (K := K) (elts := elts) (kk := kk) (tpos := tpos) D).obj
  keep := (turn_zip (P := P) (w := w) (K := K) (elts := elts) (kk := kk) (tpos := tpos) D).keep
  item := by
    intro X hP hw hK hc i pins s σ H E I hf st hg
    subst hP hw hK
    obtain ⟨hz, hTI, ⟨u0, v0, hTO⟩, h1, h2⟩ := st
    obtain ⟨xs, ys, x, y, qx, qy, ex, ey⟩ := hg
    obtain ⟨its, rv, pa, _⟩ := I.list qx
    obtain ⟨jts, rw', pb, _⟩ := I.list qy
    obtain ⟨u, hu, ru⟩ := rv.get ex
    obtain ⟨v, hv, rv2⟩ := rw'.get ey
    refine wpAny_pyNext_zip_item D hz hTI hTO h1 h2 pa.isList pb.isList (x := u) (y := v) (by simpa using hu) (by simpa using hv) fun h' za ta ia ja na _ ka => ⟨_, rfl, wpAny_letOwnedTupleGo_zip (s := { s with heap := h' }) za fun h'' zb sb => ?_⟩
    have zl : z < s.heap.objs.size := Heap.lt_size hz
    have nb : h''.get? s.heap.objs.size = some { cls := .type "tuple", data := .seq #[u, v] } := (sb.2 _ (Nat.ne_of_gt zl)).trans na
    have fpl : ∀ c ∈ [z, TI, TO, i1, i2], c < s.heap.objs.size := fun c hcm => by
      obtain ⟨o, e, _⟩ := (turn_zip (P := X.prog) (w := X.w) (K := X.K) (elts := elts) (kk := kk) (tpos := tpos) D).obj i s.heap ⟨hz, hTI, ⟨u0, v0, hTO⟩, h1, h2⟩ c hcm
      exact Heap.lt_size e
    have out : ∀ {c d : Addr}, c ∉ [z, TI, TO, i1, i2] → d ∈ [z, TI, TO, i1, i2] → c ≠ d := fun hc' hd e => hc' (by rw [e]; exact hd)
    have kept : ∀ c o, c ∉ [z, TI, TO, i1, i2] → s.heap.get? c = some o → h''.get? c = some o := fun c o hb q => (sb.2 c (out hb (by simp))).trans (ka c o (out hb (by simp)) (out hb (by simp)) (out hb (by simp)) (out hb (by simp)) q)
    have J := I.turnedNew (t' := s.toks) (h' := h'') (ob := .tup [x, y]) kept hf (Nat.le_refl _) ⟨by show 2 ≤ sizeLine; decide, [u, v], .cons ru (.cons rv2 .nil), ⟨_, nb, rfl, _, rfl⟩⟩
    exact ⟨.ref s.heap.objs.size, _, J, rfl, ⟨_, x, y, rfl, I.hok.fresh (Nat.le_refl _), rfl, fun l hl => by rw [I.list_inj hl qx]; exact ex, fun l hl => by rw [I.list_inj hl qy]; exact ey⟩, ⟨zb, (sb.2 _ D.TIz).trans (ka _ _ D.TIz D.TITO D.TIi1 D.TIi2 hTI), ⟨u, v, (sb.2 _ D.TOz).trans ta⟩, ia.at fun o q => (sb.2 _ D.i1z).trans q, ja.at fun o q => (sb.2 _ D.i2z).trans q⟩, fun c hcm => by
      rw [upd_ne (Nat.ne_of_lt (fpl c hcm))]; exact (hf c hcm).1⟩
  done := by
    intro X hP hw hK hc i pins s σ H E I hf st hg
    subst hP hw hK
    obtain ⟨hz, hTI, _, h1, _⟩ := st
    obtain ⟨xs, qx, hend⟩ := hg
    obtain ⟨its, rv, pa, _⟩ := I.list qx
    obtain ⟨p, hp, hot⟩ := hot_at hc I
    have np : ∀ c ∈ [z, TI, TO, i1, i2], p.1 ≠ c := fun c hcm => (hf c hcm).2.2.2.2.2 p (List.mem_append_left _ hp)
    have he : its.toArray[i]? = none := by have := rv.length; simp; omega
    exact pyNext_zip_end_hot (x1 := p.1) hot (np z (by simp)) (np i1 (by simp)) D hz hTI h1 pa.isList he fun h' hk => ⟨rfl, I.turnedL (t' := s.toks) (ch := [z, TI, TO, i1, i2]) (fun c o hb q => hk c o (fun e => hb (by simp [e])) (fun e => hb (by simp [e])) q) hf⟩
  self := fun A i s Q E st h => wpAny_pyIter_zip st.1 h
/-- zip(x, y), two lists -/
def iZipH (K : PySem.W.Frag) (ta : TA) : TI := fun σ H R => ta σ H fun vs H1 => ∃ a b xs ys, vs = [.ref a, .ref b] ∧ SqL K H1 a xs ∧ SqL K H1 b ys ∧ R ⟨(Itz K a b).go, (Itz K a b).yld, fun i H => ∃ xs, SqL K H a xs ∧ xs.length ≤ i⟩ H1
theorem pi_zipH {e e2 : Expr} {ta : TA} {p pos tpos : Pos} {elts : List Expr} {kk : Nat} (hg : Gl X "zip") (hm : X.mg "zip" = none) (ha : PA X [e, e2] ta) (hs : starEach [e, e2] X.env = (false, eval e X.env) :: starEach [e2] X.env := by rfl) (hpl : (backTo pos (starEach [e2] X.env)).any (·.1) = false := by rfl) :
    PIH X (.Tuple elts kk tpos) (.Call (.Name "zip" p) [e, e2] [] pos) (iZipH X.K ta) := by
  refine ⟨fun pins s σ H R I h => Call_ (ld_blt I hg hm PyProof.Rows.boot_zip (PyProof.Rows.callWith_type1 (thn (ha.run pos pins s σ H _ I h) fun us s1 ⟨vs, H1, I1, r1, q1⟩ => ?_) hs hpl))⟩
  obtain ⟨a, b, xs, ys, rfl, qx, qy, q⟩ := q1
  obtain ⟨u1, u2, rfl, ra, rb⟩ := vals2 r1
  obtain rfl : u1 = Value.ref a := ra
  obtain rfl : u2 = Value.ref b := rb
  obtain ⟨its, _, pa, _⟩ := I1.list qx
  obtain ⟨jts, _, pb, _⟩ := I1.list qy
  refine call_zip_2 pa.isList pb.isList fun h' hz hTI hTO h1 h2 _ hk => wpAny_pyIter_zip hz ?_
  refine ⟨_, [s1.heap.objs.size + 4, s1.heap.objs.size + 2, s1.heap.objs.size + 3, s1.heap.objs.size, s1.heap.objs.size + 1], _, _, H1, rfl, I1.kept (t' := s1.toks) hk, turn_zipH (PySem.W.ktu_apart s1.heap.objs.size a b pa.lt pb.lt), ⟨hz, hTI, ⟨_, _, hTO⟩, h1, h2⟩, fun c hcm => ?_, q⟩
  have hle : s1.heap.objs.size ≤ c := by
    simp only [List.mem_cons, List.not_mem_nil, or_false] at hcm
    rcases hcm with e | e | e | e | e <;> rw [e] <;> first | exact Nat.le_add_right _ _ | exact Nat.le_refl _
  exact I1.fpOk hle (I1.hok.fresh hle)
end
end EX
/-! EXd: a list comprehension, while an exception is handled. -/
namespace EX
open PySem PySem.Spec PyProof.Rows L2 HotX L2H
/-- the block's context, the handled exception in sight -/
abbrev blkH (X : Cx) (s : Shared) (H : Hp) (scope : Scope) (ce : Env) (fp : List Addr) (p : Addr × Obj) : Cx := (X.blk s H scope ce fp).tr [p] fun _ _ => False
theorem thnT {α : Type} {t : Sem α} {Q Q' : α → Shared → Prop} {M : Model} {A : Around} {E : Value → Shared → Prop} {s : Shared} (h : wpAny M A t Q (fun _ _ => False) s) (k : ∀ a s, Q a s → Q' a s) : wpAny M A t Q' E s := wpAny_mono h k fun _ _ z => z.elim
section
variable {X : Cx}
theorem pe_lcH {elt tg iter : Expr} {ifs : List Expr} {scope : Scope} {own : List (Str × Nat)} {pos : Pos} {wi : TI} {g : TG} {tt : TT} {te : TE} {p : Addr × Obj} (hp : p ∈ X.pn) (ho : Hot1 X.A p) (hN : X.N.Nodup) (hi : PIH X tg iter wi) (ok : BlkOk X.N X.env.scope scope own)
    (hg : ∀ (s : Shared) (H : Hp) (C : Addr) (cl : List (Str × Addr)) (fp : List Addr), PG (blkH X s H scope (compEnvC scope cl C X.env) fp p) tg g)
    (ht : ∀ (s : Shared) (H : Hp) (C : Addr) (cl : List (Str × Addr)) (fp : List Addr), PTs (blkH X s H scope (compEnvC scope cl C X.env) fp p) ifs tt)
    (he : ∀ (s : Shared) (H : Hp) (C : Addr) (cl : List (Str × Addr)) (fp : List Addr), PE (blkH X s H scope (compEnvC scope cl C X.env) fp p) elt te) (hs : ∀ x, foldedSetIterable iter X.env x = pure x := by intro _; rfl) :
    PE X (.ListComp elt [⟨tg, iter, ifs, 0⟩] scope pos) (tLc wi g tt te (own.map (·.2))) := by
  refine ⟨fun pins s σ H Q I h => ?_⟩
  rw [eval_ListComp]
  have fr : ∀ y ∈ scope.names, y.2 = .free → ∃ c, X.env.cells.lookup y.1 = some c := fun y hy e => (ok.free y hy e).elim (fun z => I.ok.has _ (.inl z)) fun z => I.ok.has _ (.inr z)
  refine wpAny_comprehension_free (use := none) rfl hs (closure_ok fr) ok.kind (fun y hy e => by rw [ok.uniq y hy, e]) (thn (hi.run pins s σ H _ I h) fun _ sa ha => thn ha fun itv sb hb => ?_)
  obtain ⟨it, fp, tn, J, H2, rfl, I2, T, t0, f2, q⟩ := hb
  refine wpAny_newObj_type (newEnv_comp ?_) (by show 0 ≤ sizeLine; decide)
  obtain ⟨L, eL⟩ : ∃ L, L = sb.heap.objs.size := ⟨_, rfl⟩
  rw [← eL]
  have nL : H2 L = none := I2.hok.fresh (Nat.le_of_eq eL.symm)
  obtain ⟨W, ⟨m0, w0⟩, turn⟩ := q L nL
  -- the new list stands
  obtain ⟨sc, esc⟩ : ∃ sc : Shared, sc = { sb with heap := sb.heap.push { cls := .type "list", data := .seq ([] : List Value).toArray } } := ⟨_, rfl⟩
  have hsc : sc.heap = sb.heap.push { cls := .type "list", data := .seq ([] : List Value).toArray } := by rw [esc]
  have I3 : Inv X pins σ (upd H2 L (.lst [])) sc := by
    rw [esc]
    exact I2.laid (t' := sb.toks) (fun b o e => Heap.get?_push_of_some _ e) (Nat.le_of_eq eL.symm) ⟨Nat.zero_le _, [], 0, .nil, by rw [eL]; exact Heap.get?_push_size _ rfl⟩
  have fsz : ∀ b ∈ fp, b < sb.heap.objs.size := fun b hb => let ⟨_, e, _⟩ := T.obj _ _ t0 b hb; Heap.lt_size e
  have f3 : ∀ b ∈ fp, FpOk X pins (upd H2 L (.lst [])) b ∧ b < sc.heap.objs.size := fun b hb => ⟨⟨by rw [upd_ne (by rw [eL]; exact Nat.ne_of_lt (fsz b hb))]; exact (f2 b hb).1, (f2 b hb).2⟩, by rw [hsc, Heap.size_push]; exact Nat.lt_succ_of_lt (fsz b hb)⟩
  have t3 : tn 0 sc.heap := T.keep _ _ _ t0 fun b _ o e => by rw [hsc]; exact Heap.get?_push_of_some _ e
  obtain ⟨pg1, pf1, _, pst1, pc1⟩ := I3.pin p (List.mem_append_left _ hp)
  have pnot : ∀ b ∈ fp, p.1 ≠ b := fun b hb => (f3 b hb).1.2.2.2.2.2 p (List.mem_append_left _ hp)
  have plt : p.1 < sc.heap.objs.size := Heap.lt_size pg1
  have pnf : p.1 ∉ frs X.stack := fun hm => (List.mem_cons.mp (I3.stkSub p.1 hm)).elim (I3.pin p (List.mem_append_left _ hp)).2.2.1 pst1
  have B := block_start I3 ok hN f3
  obtain ⟨H3, e3⟩ : ∃ H3, H3 = upd H2 L (.lst []) := ⟨_, rfl⟩
  rw [← e3] at I3 f3 B w0 pf1
  obtain ⟨ce, ece⟩ : ∃ ce, ce = compEnvC scope (cellsFrom (sc.heap.objs.size + 1) scope.names (cloFrom X.env.cells scope.names [])) sc.heap.objs.size X.env := ⟨_, rfl⟩
  have cL : ce.locals = sc.heap.objs.size := by rw [ece]; rfl
  obtain ⟨sd, esd⟩ : ∃ sd : Shared, sd = { sc with heap := pushCells (sc.heap.push { cls := .type "dict", data := .dict #[] }) scope.names } := ⟨_, rfl⟩
  have kd : ∀ b o, sc.heap.get? b = some o → sd.heap.get? b = some o := fun b o e => by rw [esd]; exact pushCells_keeps _ _ _ _ (Heap.get?_push_of_some _ e)
  have gg : PG (blkH X sc H3 scope ce fp p) tg g := by rw [ece]; exact hg _ _ _ _ _
  have gt : PTs (blkH X sc H3 scope ce fp p) ifs tt := by rw [ece]; exact ht _ _ _ _ _
  have ge : PE (blkH X sc H3 scope ce fp p) elt te := by rw [ece]; exact he _ _ _ _ _
  rw [← ece, ← esd] at B
  have B1 : Inv (X.blk sc H3 scope ce fp) [p] (wipe σ (own.map (·.2))) H3 sd := B.pins_of fun z hz => by
    rw [List.mem_singleton] at hz
    subst hz
    exact ⟨kd _ _ pg1, pf1, by rw [cL]; exact Nat.ne_of_lt plt, pnf, pc1⟩
  have Y0 : Inv (blkH X sc H3 scope ce fp p) [] (wipe σ (own.map (·.2))) H3 sd := B1.toTry _
  have hY : HotC (blkH X sc H3 scope ce fp p) := ⟨p, ho, List.mem_singleton.mpr rfl⟩
  have nfp : ∀ b ∈ fp, H3 b = none := fun b hb => (f3 b hb).1.1
  have t4 : tn 0 sd.heap := T.keep _ _ _ t3 fun b _ o e => kd b o e
  have stat : ∀ {σ' : L2.St} {H' : Hp} {s' : Shared}, Inv (blkH X sc H3 scope ce fp p) [] σ' H' s' → (∀ b ∈ fp, H' b = none) → ∀ b ∈ fp, FpOk (blkH X sc H3 scope ce fp p) [] H' b := fun {σ' H' s'} I' hn b hb =>
    ⟨hn b hb, (I'.ok.exf b hb).1, I'.ok.exfs b hb, .inl hb, fun x c e => (I'.ok.exf b hb).2 x c e, fun z hz => by
      rw [List.append_nil] at hz
      rw [List.mem_singleton.mp hz]; exact pnot b hb⟩
  rw [show ({ sb with heap := sb.heap.push { cls := .type "list", data := .seq ([] : List Value).toArray } } : Shared) = sc from esc.symm]
  show codeAny _ _ (.compStart (.ListComp elt [⟨tg, iter, ifs, 0⟩] scope pos) 0 (.ref it) (.ref L) (compEnvC scope (cellsFrom (sc.heap.objs.size + 1) scope.names (cloFrom X.env.cells scope.names [])) sc.heap.objs.size X.env)) _ { sc with heap := pushCells (sc.heap.push { cls := .type "dict", data := .dict #[] }) scope.names }
  rw [← ece, ← esd]
  refine codeAny_compStart_list ?lp (T.self X.A 0 _ _ _ t4 ?lp)
  case lp =>
    refine compLoop_any (fun n s' => ∃ i H', Inv (blkH X sc H3 scope ce fp p) [] (wipe σ (own.map (·.2))) H' s' ∧ tn i s'.heap ∧ (∀ b ∈ fp, H' b = none) ∧ W i n H') ?_ m0 ⟨0, H3, Y0, t4, nfp, w0⟩
    rintro n se ⟨i, He, Ie, tne, ne, we⟩
    rcases turn i n He we with ⟨stop, qq⟩ | ⟨go, Nx, hNx, step⟩
    · refine thnT (T.done (blkH X sc H3 scope ce fp p) rfl rfl rfl hY i [] se _ He (fun _ _ => False) Ie (stat Ie ne) tne stop) fun r sf ⟨hr, If⟩ => ?_
      subst hr
      have Ix : Inv X pins σ He sf := I3.call' (ch := fp) If.os If.base If.hok If.bare fun b hb => ⟨(f3 b hb).1.2.2.2.1, (f3 b hb).1.2.1, (f3 b hb).1.2.2.2.2.1, (f3 b hb).1.2.2.2.2.2⟩
      obtain ⟨m, hns, _⟩ := If.loc
      have hns : sf.heap.Ns ce.locals m := hns
      have nC : He ce.locals = none := If.free
      rw [cL] at hns nC
      obtain ⟨f0, f1, f2', f3', f4, f5⟩ := I3.fpOk (Nat.le_refl _) nC
      exact ⟨m, hns, fun h'' sb' => ⟨.ref L, He, Ix.turned (t' := sf.toks) (fun b o hb e => (sb'.2 b hb).trans e) f0 f1 f3' f4 f5, rfl, qq⟩⟩
    · refine thnT (T.item (blkH X sc H3 scope ce fp p) rfl rfl rfl hY i [] se _ He (fun _ _ => False) Ie (stat Ie ne) tne go) fun r sf ⟨u, hr, hf⟩ => ?_
      subst hr
      refine thnT hf fun _ sg ⟨x, Hg, Ig, rx, yx, tng, ng⟩ => ?_
      refine thnT (gg.run _ sg _ Hg x u _ (Ig.pinned (stat Ig ng) (T.obj _ _ tng)) rx (step x Hg yx)) fun _ sh ⟨σh, Hh, Ih, wh, qh⟩ => ?_
      refine thnT (gt.run _ sh σh Hh _ Ih qh) fun b si ⟨Hi, Ii, qi⟩ => ?_
      have fin : ∀ {s' : Shared} {H' : Hp}, Inv (blkH X sc H3 scope ce fp p) ([] ++ pinsAt fp sg.heap) σh H' s' → Nx H' → ∃ m, m < n ∧ ∃ i H', Inv (blkH X sc H3 scope ce fp p) [] (wipe σ (own.map (·.2))) H' s' ∧ tn i s'.heap ∧ (∀ b ∈ fp, H' b = none) ∧ W i m H' := fun {s' H'} I' nx => by
        obtain ⟨m', hm, w'⟩ := hNx H' nx
        have at' : ∀ b ∈ fp, ∀ o, sg.heap.get? b = some o → s'.heap.get? b = some o ∧ H' b = none := fun b hb o e => by
          obtain ⟨a1, a2, _⟩ := I'.pin (b, o) (List.mem_append_right _ (List.mem_append_right _ (mem_pinsAt hb e)))
          exact ⟨a1, a2⟩
        refine ⟨m', hm, i + 1, H', (I'.unpinned (pins := [])).weak (by rw [← wh, wipe_length]) (fun j v e => ?_), T.keep _ _ _ tng fun b hb o e => (at' b hb o e).1, fun b hb => ?_, w'⟩
        · rw [← wh] at e; exact (wipe_some e).1
        · obtain ⟨o, e, _⟩ := T.obj _ _ tng b hb; exact (at' b hb o e).2
      cases b with
      | false =>
        rw [if_neg Bool.false_ne_true] at qi ⊢
        exact fin Ii qi
      | true =>
        rw [if_pos rfl] at qi ⊢
        exact thnT (ge.run _ si σh Hi _ Ii qi) fun z sj ⟨yv, Hj, Ij, rj, acc, hL, hz, nx⟩ => app_ok (X := blkH X sc H3 scope ce fp p) Ij hL hz rj fun sk Ik => fin Ik nx
end
end EX
/-! EXe: defs that get the handled exception itself, and nothing else. -/
namespace EX
open PySem PySem.Spec PyProof.Rows L2 HotX L2H
/-- the handled exception's object: an instance of the class D, with no dict -/
structure OfD (D : Addr) (q : Addr × Obj) : Prop where
  z : L2N.Zn (.ref D) none q.2
  f : ∃ vs, q.2.data = .fields vs
/-- a def of one parameter, called with the exception that is handled: S tells its answers -/
def FnE (P : Program) (w : World) (K : PySem.W.Frag) (mg : Str → Option Value) (base : Heap) (k : Nat) (D f : Addr) (fd : FuncData) (y : Str) (S : Hp → VK → Prop) : Prop :=
  ∀ (A : Around) (l : List Env) (s : Shared) (H : Hp) (Q : VK) (q : Addr × Obj), RoomH k A → Hot1 A q → PinOk l H s q → OfD D q → Env0 P w K mg base A l s H → S H Q → ∀ as, BindsTo s fd as [(y, .ref q.1)] →
    codeAny (model P w) A (.call (.ref f) as) (CR CX0 l P w H s Q E0) s
/-- the context of such a def's body -/
abbrev cxE (P : Program) (w : World) (K : PySem.W.Frag) (mg : Str → Option Value) (base : Heap) (N : List Str) (qual : Str) (sc : Scope) (f : Addr) (cd : Value) (A : Around) (l : List Env) (s : Shared) (H : Hp) (q : Addr × Obj) : Cx :=
  cxH CX0 P w K mg base N qual sc f cd A l s H E0 q
theorem fn_ofE {P : Program} {w : World} {K : PySem.W.Frag} {mg : Str → Option Value} {base : Heap} {k : Nat} {D f : Addr} {x y : Str} {st : Stmt} {fd : FuncData} {N : List Str} {S : Hp → VK → Prop} (F : Fun K x x st f fd) (Sc : FnScope N [y] (defScope st))
    (hb : ∀ (cdv : Value) (A : Around) (l : List Env) (s : Shared) (H : Hp) (Q : VK) (q : Addr × Obj), Hot1 A q → OfD D q → RoomH k (A.deeper (envOfC x (defScope st) s.heap.objs.size f cdv)) → S H Q →
      ∃ t, PSs (cxE P w K mg base N x (defScope st) f cdv A l s H q) (defBody st) t ∧ t { nx := fun _ H' => Q .non H', rt := Q } (L2.start N [.ref q.1]) H) : FnE P w K mg base (k + 1) D f fd y S := by
  intro A l s H Q q hr hot hpin od e0 hS as hbind
  obtain ⟨oc, oD, kV, doc, pm, an, cdv, ct, osl, rfl, lk, hcd⟩ := F.ex
  have old : ∀ b o, base.get? b = some o → s.heap.get? b = some o := fun b o e => (e0.bs b o e).1
  have KX := e0.mod.kin.keeps old
  refine codeAny_call_function hr.depth (KX _ _ lk) rfl Sc.co Sc.gen rfl (PySem.W.codeRec_of KX hcd) (hbind _ _ _ _ (wpAny_newFunctionEnv_cells Sc.kind (fun z hz => ?_) fun env he s1 x1 => ?_))
  · cases List.mem_singleton.mp hz
    exact (Sc.par y (List.mem_singleton.mpr rfl)).imp id fun z => ⟨z, PySem.W.cellsFrom_some _ _ _ (.inl z)⟩
  · subst he
    obtain ⟨t, ht, hq⟩ := hb cdv A l s H Q q hot od (hr.deeper _) hS
    have I := inv_startH (E := E0) (CX := CX0) (us := [.ref q.1]) (vs := [.ref q.1]) Sc hpin e0 rfl (.cons rfl .nil) x1
    refine ⟨(e0.mod.nolimit.keeps old).keeps x1.toInCall.keep, codeAny_func (wpAny_mono (ht.run [] s1 (L2.start N [.ref q.1]) H _ I hq) (fun fl s' hs => ?_) fun e s' hs => hs)⟩
    match fl, hs with
    | .ret u, ⟨v, σ', H', J, rv, z⟩ => exact ⟨v, H', J.os, J.bare, J.base, J.hok, rv, z⟩
    | .next, ⟨σ', H', J, z⟩ => exact ⟨V.non, H', J.os, J.bare, J.base, J.hok, rfl, z⟩
    | .brk, ⟨_, _, _, z⟩ => exact z.elim
    | .cont, ⟨_, _, _, z⟩ => exact z.elim
section
variable {X : Cx} {k i : Nat} {D f : Addr} {fd : FuncData} {y x : Str} {S : Hp → VK → Prop} {q : Addr × Obj} {p pos : Pos} {e : Expr}
/-- x(e), e the handled exception -/
def tE (a : Addr) (i : Nat) (S : Hp → VK → Prop) : TE := fun σ H Q => σ[i]? = some (some (.ref a)) ∧ S H Q
theorem pe_callE (F : FnE X.prog X.w X.K X.mg X.base k D f fd y S) (hr : RoomH k X.A) (hq : q ∈ X.pn) (ho : Hot1 X.A q) (od : OfD D q) (hg : Gl X x) (hm : X.mg x = some (.ref f)) (hk : PySem.W.keepIn X.K (.ref f) = true) (hb : Binds X.K fd [y] []) (ha : PE X e (tVar i))
    (hdb : (x == ("__debug__" : Str)) = false := by decide) (he : starEach [e] X.env = (false, eval e X.env) :: starEach [] X.env := by rfl) (hpl : (backTo pos (starEach [] X.env)).any (·.1) = false := by rfl) :
    PE X (.Call (.Name x p) [e] [] pos) (tE q.1 i S) := by
  refine ⟨fun pins s σ H Q I h => wpAny_Call_Name_kw (ld_glob I hg hm ?_ hdb)⟩
  refine PySem.W.callWith_K (h₀ := X.base) I.ok.mod.kin hk (thn ((pa_cons ha pa_nil (hs := he)).run pos pins s σ H (fun vs H1 => vs = [.ref q.1] ∧ H1 = H) I ⟨_, h.1, rfl, rfl⟩) fun us s1 ⟨vs, H1, I1, r, z1, z2⟩ => ⟨I1.kIn, ?_⟩) he hpl
  subst z1 z2
  cases r with
  | cons r0 rr =>
    cases rr
    cases r0
    obtain ⟨g1, g2, g3, g4, g5⟩ := I1.pin q (List.mem_append_left _ hq)
    have hpin : PinOk X.stack H1 s1 q := ⟨g1, g2, fun hm => (List.mem_cons.mp (I1.stkSub q.1 hm)).elim g3 g4, g5⟩
    refine wpAny_call (codeAny_mono (F X.A X.stack s1 H1 Q q hr ho hpin od I1.env0 h.2 _ (hb s1 [.ref q.1] I1.kIn rfl)) fun r s' hq => ?_)
    match r, hq with
    | .error _, z => exact (show False from z).elim
    | .ok (.ret u), z => exact I1.after z
end
/-- isinstance(e, C), C one own class or a built-in one -/
def rIs1 (K : PySem.W.Frag) (D a : Addr) : List V → Hp → VK → Prop := fun xs H Q => ∃ (c : V) (cv : Value) (b : Bool), xs = [.ref a, c] ∧ (∀ u, RelV c u → u = cv) ∧ PySem.W.kitOne K (.ref D) cv = some b ∧ Q (.bl b) H
/-- isinstance(e, (C1, C2)), the tuple that was just laid -/
def rIsT (K : PySem.W.Frag) (D a : Addr) : List V → Hp → VK → Prop := fun xs H Q => ∃ (tp : Addr) (cs : List V) (us : List Value) (b : Bool), xs = [.ref a, .ref tp] ∧ H tp = some (.tup cs) ∧ Paired ClsV cs us ∧ PySem.W.kitAny K (.ref D) us = some b ∧ Q (.bl b) H
section
variable {X : Cx} {D : Addr} {q : Addr × Obj} {pins : List (Addr × Obj)} {σ : L2.St} {H : Hp} {s : Shared}
theorem inst_at (hq : q ∈ X.pn) (od : OfD D q) (I : Inv X pins σ H s) : PySem.W.InstAt s.heap q.1 q.2 D none := by
  have g := (I.pin q (List.mem_append_left _ hq)).1
  obtain ⟨⟨h1, h2, _⟩, vs, hv⟩ := od
  obtain ⟨a, oc, o2, oda, osl⟩ := q
  dsimp only at h1 h2 hv
  subst h1 h2 hv
  exact ⟨g, rfl, rfl, trivial⟩
theorem call_is1 (C : ExcC X.K D) (hq : q ∈ X.pn) (od : OfD D q) : CallR X (.builtin "isinstance") (rIs1 X.K D q.1) := by
  rintro pins s σ H xs us Q I r ⟨c, cv, b, rfl, hcv, e, h⟩
  obtain ⟨u1, u2, rfl, r1, r2⟩ := vals2 r
  cases (show u1 = Value.ref q.1 from r1)
  cases hcv _ r2
  exact PySem.W.kia_one (PySem.W.handS_kitx_exc C.hg C.hk C.hs C.hd C.ha C.hn C.ht C.hm) I.kIn (inst_at hq od I) e (fun z => nomatch z) fun tk => ⟨.bl b, H, I.tok tk, rfl, h⟩
theorem call_isT (C : ExcC X.K D) (hq : q ∈ X.pn) (od : OfD D q) : CallR X (.builtin "isinstance") (rIsT X.K D q.1) := by
  rintro pins s σ H xs us Q I r ⟨tp, cs, ws, b, rfl, hT, k, e, h⟩
  obtain ⟨u1, u2, rfl, r1, r2⟩ := vals2 r
  cases (show u1 = Value.ref q.1 from r1)
  cases (show u2 = Value.ref tp from r2)
  obtain ⟨_, its, rv, o, h1, h2, n, h3⟩ := (show ObjOk X.prog X.w H s.heap tp (.tup cs) from I.hok tp _ hT)
  cases (ClsV.all k rv : its = ws)
  obtain ⟨oc, o2, dt, sl⟩ := o
  dsimp only at h2 h3
  subst h2 h3
  exact PySem.W.kia_tup (PySem.W.handS_kitx_exc C.hg C.hk C.hs C.hd C.ha C.hn C.ht C.hm) I.kIn (inst_at hq od I) h1 e (fun z => nomatch z) fun tk => ⟨.bl b, H, I.tok tk, rfl, h⟩
end
end EX
/-! EXf: on data: what the handled exception is an instance of; zip while it is handled; join. -/
namespace EX
open PySem PySem.Spec PyProof.Rows L2 DL
section
variable {K : PySem.W.Frag} {Dc a : Addr} {i : Nat}
/-- what is told of the opaque v in the slot i -/
noncomputable def sIs (i : Nat) (v : V) (b : Bool) : SE := open Classical in fun ρ c => if ρ[i]? = some (.op v) then some (.bool b, c) else none
theorem sIs_eq {v : V} {b : Bool} {ρ : Rho} {c : Dr} (h : ρ[i]? = some (.op v)) : sIs i v b ρ c = some (.bool b, c) := if_pos h
theorem sIs_slot {v : V} {b : Bool} {ρ : Rho} {c c' : Dr} {d : D} (h : sIs i v b ρ c = some (d, c')) : ρ[i]? = some (.op v) ∧ d = .bool b ∧ c' = c := by
  unfold sIs at h
  split at h
  · rename_i z
    cases h
    exact ⟨z, rfl, rfl⟩
  · cases h
theorem imp_is1 {u : V} {cv : Value} {b : Bool} (hc : ∀ z, RelV u z → z = cv) (hk : PySem.W.kitOne K (.ref Dc) cv = some b) : ImpE K (tCB (rIs1 K Dc a) (tCons (tVar i) (tCons (tC u) tNil))) (sIs i (.ref a) b) := fun ad B σ H ρ c d c' Q R e q => by
  obtain ⟨e0, rfl, rfl⟩ := sIs_slot e
  exact ⟨.ref a, R.slot i _ e0, u, cv, b, rfl, hc, hk, q _ B H R.fwRefl (.bl b)⟩
theorem imp_isT {u1 u2 : V} {c1 c2 : Value} {b : Bool} (h1 : ClsV u1 c1) (h2 : ClsV u2 c2) (hk : PySem.W.kitAny K (.ref Dc) [c1, c2] = some b) :
    ImpE K (tCB (rIsT K Dc a) (tCons (tVar i) (tCons (tTup (tCons (tC u1) (tCons (tC u2) tNil))) tNil))) (sIs i (.ref a) b) := fun ad B σ H ρ c d c' Q R e q => by
  obtain ⟨e0, rfl, rfl⟩ := sIs_slot e
  refine ⟨.ref a, R.slot i _ e0, by show 2 ≤ sizeLine; decide, fun p np => ⟨p, [u1, u2], [c1, c2], b, rfl, upd_same, .cons h1 (.cons h2 .nil), hk, ?_⟩⟩
  refine q _ B _ ⟨Same.refl _, R.sub.trans (same_new np), fun x o _ h => same_new np x o h, fun x e => same_new np x _ (R.cell x e), fun x o h n => by rw [h] at n; cases n⟩ (.bl b)
/-- zip of two lists alike long -/
def sZipH (a b : SE) : SI := fun ρ c => (a ρ c).bind fun p => (b ρ p.2).bind fun q => match p.1, q.1 with
  | .list xs, .list ys => if xs.length = ys.length then some (zipL xs ys, q.2) else none
  | _, _ => none
theorem imp_zipH {t u : TE} {a b : SE} (h : ImpE K t a) (h2 : ImpE K u b) : ImpI K (iZipH K (tCons t (tCons u tNil))) (sZipH a b) := fun ad B σ H ρ c xs c' Q R e q => by
  obtain ⟨⟨d, c1⟩, e1, e2⟩ := Option.bind_eq_some_iff.mp e
  obtain ⟨⟨d2, c2⟩, e3, e4⟩ := Option.bind_eq_some_iff.mp e2
  refine h ad B σ H ρ c d _ _ R e1 fun v B1 H1 x dv => h2 ad B1 σ H1 ρ c1 d2 _ _ (R.fw x) e3 fun v2 B' H' y dv2 => ?_
  cases d with
  | list ys =>
    cases d2 with
    | list zs =>
      have e4' : (if ys.length = zs.length then some (zipL ys zs, c2) else none) = some (xs, c') := e4
      split at e4'
      · rename_i hl
        cases e4'
        obtain ⟨a, vs, rfl, k1, s1⟩ := dp_list dv
        obtain ⟨b, ws, rfl, k2, s3⟩ := dp_list dv2
        have g1 : ∀ {H2}, Same B' H2 → SqL K H2 a vs := fun m => SqL.of (m _ _ (y.bb _ _ k1))
        have g2 : ∀ {H2}, Same B' H2 → SqL K H2 b ws := fun m => SqL.of (m _ _ k2)
        refine ⟨a, b, vs, ws, rfl, g1 y.bh, g2 y.bh, q _ B' H' (R.trans x y) fun B2 H2 m1 m2 => ⟨⟨vs, g1 (m1.trans m2), ?_⟩, fun i d hd => ?_⟩⟩
        · rw [zipL_len, ← hl, Nat.min_self]; exact Nat.le_of_eq (dpAll_len s1)
        · obtain ⟨y1, y2, j1, j2, rfl⟩ := zipL_get hd
          obtain ⟨w1, n1, o1⟩ := dpAll_get s1 j1
          obtain ⟨w2, n2, o2⟩ := dpAll_get s3 j2
          refine ⟨⟨vs, ws, w1, w2, g1 (m1.trans m2), g2 (m1.trans m2), n1, n2⟩, fun z H3 hy => ?_⟩
          obtain ⟨T, x', y', rfl, nT, rfl, f, f2⟩ := hy
          cases (f vs (g1 (m1.trans m2))).symm.trans n1
          cases (f2 ws (g2 (m1.trans m2))).symm.trans n2
          obtain ⟨g, dd⟩ := Grow.newTup (K := K) (vs := [w1, w2]) (ds := [y1, y2]) m2 nT (.cons (dp_mono (y.bb.trans m1) _ _ o1) (.cons (dp_mono m1 _ _ o2) .nil))
          exact ⟨_, g, dd⟩
      · cases e4'
    | _ => cases e4
  | _ => cases e4
/-- texts -/
def strsD : List D → Option (List Str)
  | [] => some []
  | .str x :: r => (strsD r).map (x :: ·)
  | _ :: _ => none
theorem strsD_ok {B : Hp} : ∀ {ds : List D} {vs : List V} {ys : List Str}, DL.DpAll K B vs ds → strsD ds = some ys → vs = ys.map V.str
  | [], _, ys, .nil, e => by cases e; rfl
  | .str x :: r, _, ys, .cons h1 h2, e => by
    obtain ⟨zs, e1, rfl⟩ := Option.map_eq_some_iff.mp (show (strsD r).map (x :: ·) = some ys from e)
    cases h1
    rw [strsD_ok h2 e1]
    rfl
def sJoin (a b : SE) : SE := fun ρ c => (a ρ c).bind fun p => (b ρ p.2).bind fun q => match p.1, q.1 with
  | .str x, .list ds => (strsD ds).bind fun ys => if (ys.map (·.length)).sum + ys.length * x.length ≤ 1000000 then some (.str (Txt.join x ys), q.2) else none
  | _, _ => none
abbrev rJoin (K : PySem.W.Frag) : V → List V → Hp → VK → Prop := fun x xs H Q => ∃ a p, ∃ ys : List Str, x = .str a ∧ xs = [.ref p] ∧ (SqL K H p (ys.map V.str) ∨ SqT K H p (ys.map V.str)) ∧ (ys.map (·.length)).sum + ys.length * a.length ≤ 16777216 ∧ Q (.str (Txt.join a ys)) H
theorem imp_join {t u : TE} {a b : SE} (h : ImpE K t a) (h2 : ImpE K u b) : ImpE K (tM1 (rJoin K) t u) (sJoin a b) := fun ad B σ H ρ c d c' Q R e q => by
  obtain ⟨⟨d1, c1⟩, e1, e2⟩ := Option.bind_eq_some_iff.mp e
  obtain ⟨⟨d2, c2⟩, e3, e4⟩ := Option.bind_eq_some_iff.mp e2
  refine h ad B σ H ρ c d1 _ _ R e1 fun v B1 H1 x dv => ?_
  cases d1 with
  | str z =>
    cases dv
    refine ⟨⟨z, rfl⟩, h2 ad B1 σ H1 ρ c1 d2 _ _ (R.fw x) e3 fun v2 B' H' y dv2 => ?_⟩
    cases d2 with
    | list ds =>
      obtain ⟨ys, e5, e6⟩ := Option.bind_eq_some_iff.mp (show (strsD ds).bind (fun ys => if (ys.map (·.length)).sum + ys.length * z.length ≤ 1000000 then some (PyData.str (Txt.join z ys), c2) else none) = some (d, c') from e4)
      split at e6
      · rename_i hl
        cases e6
        obtain ⟨p, vs, rfl, k1, s1⟩ := dp_list dv2
        have ev := strsD_ok s1 e5
        subst ev
        exact ⟨z, p, ys, rfl, rfl, .inl (SqL.of (y.bh _ _ k1)), Nat.le_trans hl (by decide), q _ B' H' (R.trans x y) (.str _)⟩
      · cases e6
    | _ => cases e4
  | _ => cases e4
end
end EX
/-! EXg: what the written part says of the own error classes; defs of the handled exception by their meanings. -/
namespace EX
open PySem PySem.Spec PyProof.Rows L2 DL L2H
/-- the class named x, at C: whether S is under it -/
structure OneC (K : PySem.W.Frag) (mg : Str → Option Value) (S C : Addr) (x : Str) (b : Bool) : Prop where
  g : mg x = some (.ref C)
  i : PySem.W.isClsIn K C = true
  t : PySem.W.typeIn K (.ref C) = some (.type "type")
  s : PySem.W.subIn K (.ref S) (.ref C) = some b
/-- the class that is raised, at S, and the caught one, at F -/
structure ShortC (K : PySem.W.Frag) (mg : Str → Option Value) (S F : Addr) : Prop where
  g : mg "Short" = some (.ref S)
  x : PySem.W.excIn K S [.type "ValueError", .type "Exception", .type "BaseException", .type "object"] "ValueError.__new__" = true
  kp : PySem.W.keepIn K (.ref S) = true
  bs : PySem.W.subIn K (.ref S) (.type "BaseException") = some true
  t : PySem.W.typeIn K (.ref S) = some (.type "type")
  me : PySem.W.subIn K (.ref S) (.ref S) = some true
  v : PySem.W.subIn K (.ref S) (.type "ValueError") = some true
  e : ExcC K S
  fg : mg "FrameError" = some (.ref F)
  fx : PySem.W.exmOne K (.ref S) (.ref F) = some true
theorem OneC.kit {K : PySem.W.Frag} {mg : Str → Option Value} {S C : Addr} {x : Str} {b : Bool} (h : OneC K mg S C x b) (me : PySem.W.subIn K (.ref S) (.ref S) = some true) : PySem.W.kitOne K (.ref S) (.ref C) = some b := by
  have e2 : ((PySem.W.clsIn K C).isSome && PySem.W.typeIn K (.ref C) == some (.type "type")) = true := by
    rw [h.t, show (PySem.W.clsIn K C).isSome = true from h.i]; rfl
  unfold PySem.W.kitOne
  split
  · rename_i z
    have z2 : S = C := Value.ref.inj (eq_of_beq z)
    have := h.s
    rw [← z2, me] at this
    exact this
  · show (if ((PySem.W.clsIn K C).isSome && PySem.W.typeIn K (.ref C) == some (.type "type")) = true then PySem.W.subIn K (.ref S) (.ref C) else none) = some b
    rw [if_pos e2]; exact h.s
theorem ShortC.kitV {K : PySem.W.Frag} {mg : Str → Option Value} {S F : Addr} (h : ShortC K mg S F) : PySem.W.kitOne K (.ref S) (.type "ValueError") = some true := by
  unfold PySem.W.kitOne
  rw [if_neg (show ¬ (Value.ref S == Value.type "ValueError") = true from by intro z; cases eq_of_beq z)]
  show (if PySem.W.kitMeta "ValueError" = true then PySem.W.subIn K (.ref S) (.type "ValueError") else none) = some true
  rw [if_pos (by decide +kernel)]; exact h.v
theorem OneC.cls {K : PySem.W.Frag} {mg : Str → Option Value} {S C : Addr} {x : Str} {b : Bool} (_ : OneC K mg S C x b) : ∀ z, RelV (.ref C) z → z = .ref C := fun _ r => r
/-- target (x, y) of a pair, while an exception is handled -/
theorem pg_tupHK {X : Cx} {K : PySem.W.Frag} {es : List Expr} {k : Nat} {t : TGs} {n : Nat} {pos : Pos} (hK : X.K = K) (hc : HotC X) (h : PGs X es t)
    (hn : (assignEach es X.env).length = n := by rfl) (hst : (assignEach es X.env).findIdx? (·.1) = none := by rfl) : PG X (.Tuple es k pos) (gTup K n t) := by
  subst hK; exact pg_tupH hc h hn hst
/-- the answer d, whatever is tracked -/
def spE (K : PySem.W.Frag) (d : D) : Hp → VK → Prop := fun H Q => ∃ B, Same B H ∧ ∀ v B' H', Grow B H B' H' → DL.Dp K B' v d → Q v H'
section
variable {P : Program} {w : World} {K : PySem.W.Frag} {mg : Str → Option Value} {base : Heap} {x y : Str} {st : Stmt} {f : Addr} {fd : FuncData} {N : List Str} {k n : Nat} {C : Addr}
theorem rl_startE {B H : Hp} {a : Addr} (s : Same B H) (hl : N.length = n + 1) : Rl K none B (L2.start N [.ref a]) H (.op (.ref a) :: List.replicate n .un) (0, 0) := by
  have un : ∀ {i : Nat} {s : Sl}, (List.replicate n Sl.un)[i]? = some s → s = .un := fun {i s} e => (List.mem_replicate.mp (List.mem_of_getElem? e)).2
  refine ⟨s, fun a e => (by cases e), fun a e => (by cases e), ?_, fun i s e => ?_, fun i j s t a _ e1 _ o1 => ?_⟩
  · unfold L2.start
    rw [List.length_append, List.length_replicate, hl]
    simp only [List.length_map, List.length_cons, List.length_nil, List.length_replicate]; omega
  · match i, e with
    | 0, e => cases e; exact start_get rfl
    | i + 1, e => rw [un (show (List.replicate n Sl.un)[i]? = some s from e)]; trivial
  · match i, e1 with
    | 0, e1 => cases e1; cases o1
    | i + 1, e1 => rw [un (show (List.replicate n Sl.un)[i]? = some s from e1)] at o1; cases o1
theorem okE {d : D} (F : Fun K x x st f fd) (S : FnScope N [y] (defScope st)) (hN : N.length = n + 1)
    (hb : ∀ (cdv : Value) (A : Around) (l : List Env) (s : Shared) (H : Hp) (q : Addr × Obj), Hot1 A q → OfD C q → RoomH k (A.deeper (envOfC x (defScope st) s.heap.objs.size f cdv)) →
      ∃ t g, PSs (cxE P w K mg base N x (defScope st) f cdv A l s H q) (defBody st) t ∧ ImpS K t g ∧ ∃ ρ' c', g (.op (.ref q.1) :: List.replicate n .un) (0, 0) = some (.rt d, ρ', c')) : FnE P w K mg base (k + 1) C f fd y (spE K d) :=
  fn_ofE F S fun cdv A l s H Q q hot od hr ⟨B, sB, hQ⟩ => by
    obtain ⟨t, g, ht, im, ρ', c', e⟩ := hb cdv A l s H q hot od hr
    refine ⟨t, ht, im none B _ H _ (0, 0) _ _ (rl_startE sB hN) e fun v B' σ' H' R' z dv => hQ v B' H' ?_ dv⟩
    have no : ∀ a, ¬ Owned (Sl.op (.ref q.1) :: List.replicate n .un) (L2.start N [.ref q.1]) a := noOwned fun i s e => by
      match i, e with
      | 0, e => cases e; rfl
      | i + 1, e => rw [(List.mem_replicate.mp (List.mem_of_getElem? (show (List.replicate n Sl.un)[i]? = some s from e))).2]; rfl
    exact ⟨z.bb, R'.sub, fun a o e => z.keep a o (fun e => nomatch e) e (no a), fun a o e1 e2 => (z.fresh a o e1 e2).elim id fun u => absurd u (no a)⟩
end
end EX
/-! EXh: defs that raise an own error, on data. -/
namespace EX
open PySem PySem.Spec PyProof.Rows L2 DL
/-- a def that raises an S, at the arguments that cond tells -/
def spR (K : PySem.W.Frag) (S : Addr) (cond : List D → Prop) : Sp := fun vs H _ E => ∃ (ds : List D) (B : Hp), Same B H ∧ DL.DpAll K B vs ds ∧ cond ds ∧ ∀ B' H', Grow B H B' H' → E (.ref S) none H'
/-- the raise, read as the end ct -/
def tRz (E : XK) (S : Addr) : TS := fun _ _ H => E (.ref S) none H
section
variable {P : Program} {w : World} {K : PySem.W.Frag} {mg : Str → Option Value} {base : Heap} {x qual : Str} {st : Stmt} {f : Addr} {fd : FuncData} {N ps : List Str} {k n : Nat} {S : Addr}
/-- where the body's reading ends at the raise -/
def condR (m n : Nat) (g : SS) (ds : List D) : Prop := ds.length = m ∧ ∃ ρ' c', g (ds.map .im ++ List.replicate n .un) (0, 0) = some (.ct, ρ', c')
theorem okR {g : SS} (F : Fun K x qual st f fd) (Sc : FnScope N ps (defScope st)) (hn : N.length = ps.length + n)
    (hb : ∀ (cdv : Value) (A : Around) (l : List Env) (s : Shared) (H : Hp) (E : XK), Room k (A.deeper (envOfC qual (defScope st) s.heap.objs.size f cdv)) → ∃ t t', PSs (cxOf (L2N.CX P w) P w K mg base N qual (defScope st) f cdv A l s H E) (defBody st) t ∧ ImpS K t' g ∧
      ∀ nx rt bk σ H, t' ⟨nx, rt, bk, fun _ H' => E (.ref S) none H'⟩ σ H → t ⟨nx, rt, fun _ _ => False, fun _ _ => False⟩ σ H) :
    FnOk P w K mg base (L2N.CX P w) (k + 1) f fd ps (spR K S (condR ps.length n g)) := by
  have hlen : ∀ vs H Q E, spR K S (condR ps.length n g) vs H Q E → vs.length = ps.length := fun vs H Q E ⟨ds, B, _, da, c, _⟩ => by rw [dpAll_len da, c.1]
  obtain ⟨oc, od, kV, doc, pm, an, cdv, ct, osl, rfl, lk, hcd⟩ := F.ex
  refine fn_of lk hcd Sc hlen fun A l s H vs Q E hr h => ?_
  have hl := hlen vs H Q E h
  obtain ⟨t, t', ht, im, z⟩ := hb cdv A l s H E hr
  obtain ⟨ds, B, sB, da, ⟨hd, ρ', c', e⟩, q⟩ := h
  have R := rl_start (N := N) sB da (n := n) (by rw [hl]; exact hn)
  refine ⟨t, ht, z _ _ (fun _ _ => False) _ _ (im none B (L2.start N vs) H _ (0, 0) _ _ R e fun B' σ' H' R' y => q B' H' ?_)⟩
  have no : ∀ a, ¬ Owned (ds.map Sl.im ++ List.replicate n Sl.un) (L2.start N vs) a := noOwned fun i s e => noOwn_start e
  exact ⟨y.bb, R'.sub, fun a o e => y.keep a o (fun e => nomatch e) e (no a), fun a o e1 e2 => (y.fresh a o e1 e2).elim id fun u => absurd u (no a)⟩
/-- a def whose first statement raises, called with its own arguments -/
theorem okR1 {cond : List D → Prop} (F : Fun K x qual st f fd) (Sc : FnScope N ps (defScope st)) (hn : N.length = ps.length + n)
    (hb : ∀ (cdv : Value) (A : Around) (l : List Env) (s : Shared) (H : Hp) (E : XK), Room k (A.deeper (envOfC qual (defScope st) s.heap.objs.size f cdv)) → ∃ (t : TA) (a : SA), PSs (cxOf (L2N.CX P w) P w K mg base N qual (defScope st) f cdv A l s H E) (defBody st) (tSeq (tDrop (tCallS (spR K S cond) (WE fun c d _ H => E c d H) t)) tNever) ∧
      ImpA K t a ∧ ∀ ds, cond ds → a (ds.map .im ++ List.replicate n .un) (0, 0) = some (ds, (0, 0))) (hc : ∀ ds, cond ds → ds.length = ps.length) :
    FnOk P w K mg base (L2N.CX P w) (k + 1) f fd ps (spR K S cond) := by
  have hlen : ∀ vs H Q E, spR K S cond vs H Q E → vs.length = ps.length := fun vs H Q E ⟨ds, B, _, da, c, _⟩ => by rw [dpAll_len da, hc ds c]
  obtain ⟨oc, od, kV, doc, pm, an, cdv, ct, osl, rfl, lk, hcd⟩ := F.ex
  refine fn_of lk hcd Sc hlen fun A l s H vs Q E hr h => ?_
  have hl := hlen vs H Q E h
  obtain ⟨t, a, ht, im, e⟩ := hb cdv A l s H E hr
  obtain ⟨ds, B, sB, da, c, q⟩ := h
  have R := rl_start (N := N) sB da (n := n) (by rw [hl]; exact hn)
  refine ⟨_, ht, im none B (L2.start N vs) H _ (0, 0) ds _ _ R (e ds c) fun ws B' H' y dw => ⟨ds, B', y.bh, dw, c, fun B2 H2 g => q B2 H2 ?_⟩⟩
  have no : ∀ a, ¬ Owned (ds.map Sl.im ++ List.replicate n Sl.un) (L2.start N vs) a := noOwned fun i s e => noOwn_start e
  have y2 : Fw none (0, 0) B H B2 H2 := R.trans y (g.fw fun a e => nomatch e)
  exact ⟨y2.bb, g.bh, fun a o e => y2.keep a o (fun e => nomatch e) e, fun a o e1 e2 => y2.fresh a o e1 e2⟩
end
end EX
/-! EXi: a lambda without parameters handed to a def that catches; the exception's context is known to be None. -/
namespace EX
open PySem PySem.Spec PyProof.Rows L2 LamX
abbrev qL (X : Cx) : Str := X.env.qual ++ "<lambda>"
/-- the lambda's object -/
abbrev objL (X : Cx) (params : Arguments) (body : Expr) (scope : Scope) (pm : Value) (c' : Addr) (ctv : Value) : Obj := PySem.W.kla_obj "<lambda>" (qL X) params body scope (cloFrom X.env.cells scope.names []) pm c' ctv
/-- the context of the lambda's body: what it lets out has the context None -/
abbrev lamCxN (X : Cx) (A : Around) (l : List Env) (s : Shared) (H : Hp) (E : XK) (scope : Scope) (f c' : Addr) : Cx :=
  (lamCx X A l s H E scope f c').wish fun e s' => wpAny (model X.prog X.w) (A.deeper (lamEnv X scope s.heap.objs.size f c')) (leaving (lamEnv X scope s.heap.objs.size f c') e) (fun _ z => L2N.CX X.prog X.w l H s E e z) (fun e' z => L2N.CX X.prog X.w l H s E e' z) s'
theorem takes_lam {X : Cx} {A : Around} {l : List Env} {s : Shared} {H : Hp} {E : XK} {scope : Scope} {f c' : Addr} : L2N.Takes (lamCxN X A l s H E scope f c') (fun cls d _ H => E cls d H) := L2N.takes_of (E := E) rfl rfl rfl rfl
/-- the context of the def that got the lambda, within its try -/
abbrev cxT (X : Cx) (Ng : List Str) (x : Str) (sg : Scope) (g : Addr) (cdg : Value) (s : Shared) (H : Hp) (pn : List (Addr × Obj)) (xe : Value → Shared → Prop) : Cx := (cxOf CX0 X.prog X.w X.K X.mg X.base Ng x sg g cdg X.A X.stack s H E0).tr pn xe
section
variable {X : Cx} {pins : List (Addr × Obj)} {σ : L2.St} {H : Hp} {s : Shared}
theorem pe_actN {Ng : List Str} {x : Str} {sg : Scope} {g f c' : Addr} {cdg pm ctv : Value} {params : Arguments} {body : Expr} {scope : Scope} {k i : Nat} {a : Str} {pn : List (Addr × Obj)} {xe : Value → Shared → Prop} {W : WX} {E : XK} {tb : TE} {p1 p2 : Pos}
    (I : Inv X pins σ H s) (L : LamS X.env.scope scope) (hf : s.heap.get? f = some (objL X params body scope pm c' ctv)) (hfn : H f = none) (hfr : f ∉ frs X.stack)
    (hbind : bindArgs (PySem.W.kla_fn "<lambda>" (qL X) params body scope (cloFrom X.env.cells scope.names []) pm (.ref c') ctv) ⟨[], []⟩ = pure []) (tk : L2N.Takes (cxT X Ng x sg g cdg s H pn xe) W)
    (hr : Room (k + 1) (X.A.deeper (envOfC x sg s.heap.objs.size g cdg))) (hbody : ∀ (A : Around) (l : List Env) (s : Shared) (H : Hp), Room k (A.deeper (lamEnv X scope s.heap.objs.size f c')) → PE (lamCxN X A l s H E scope f c') body tb)
    (hN : Ng[i]? = some a) (hv : Vis sg a) (hd : (a == ("__debug__" : Str)) = false := by decide) (hcd : (a == ("__classdict__" : Str)) = false := by decide) :
    PE (cxT X Ng x sg g cdg s H pn xe) (.Call (.Name a p1) [] [] p2) (fun σZ HZ Q => σZ[i]? = some (some (.ref f)) ∧ HZ c' = some (CodeO c' (qL X)) ∧ (∀ cls d H', E cls d H' → W cls d σZ H') ∧ tb σ HZ Q) := by
  refine ⟨fun pZ sZ σZ HZ Q IZ ⟨hs, hc, hw, ht⟩ => wpAny_Call_Name_kw (thn ((pe_var (pos := p1) (i := i) hN hv hd hcd).run pZ sZ σZ HZ (fun v H1 => v = .ref f ∧ H1 = HZ) IZ ⟨.ref f, hs, rfl, rfl⟩) ?_)⟩
  rintro u s1 ⟨v, H1, I1, r1, ev, eH⟩
  subst ev eH
  cases r1
  have at1 : s1.heap.get? f = some (objL X params body scope pm c' ctv) := I1.base.keep f _ hf hfn hfr (fun z => nomatch (show f ∈ ([] : List Addr) from z))
  have un : Un (frs X.stack) [] H H1 s.heap s1.heap := I1.base
  obtain ⟨⟨oc, vs, t, hoc, hdc, hvc⟩, _, _⟩ := I1.hok c' _ hc
  refine PySem.W.callWith_F0 ⟨_, _, _, _, at1⟩ (wpAny_call (codeAny_mono (R := CR (L2N.CX X.prog X.w) (envOfC x sg s.heap.objs.size g cdg :: X.stack) X.prog X.w H1 s1 Q E) (PySem.W.kla_callFunE hr.depth at1 rfl L.co L.gen rfl ⟨c', oc, vs, t, rfl, hoc, hdc, hvc⟩ ?_) fun r s' hq => ?_))
  · rw [show (⟨([] : List Value) ++ [], []⟩ : Args) = ⟨[], []⟩ from rfl, hbind]
    refine wpAny_pure (wpAny_newFunctionEnv (fun y hy => (L.own y hy).2) (fun y hy => absurd hy (by simp)) (fun h₁ hns hsb => ⟨I1.nolimit.fresh _ hsb, ?_⟩) L.kind)
    have kp : ∀ b o, s1.heap.get? b = some o → h₁.get? b = some o := fun b o e => hsb.extBut b o (Nat.ne_of_lt (Heap.lt_size e)) (Heap.get?_push_of_some _ e)
    have J0 := lam_start2 (E := E) (tk := s1.toks + ([] : List (Str × Value)).length) (c' := c') (f := f) I L I1.env0 hr.hd un hns kp
    have J := J0.wish fun e s' => wpAny (model X.prog X.w) ((X.A.deeper (envOfC x sg s.heap.objs.size g cdg)).deeper (lamEnv X scope s1.heap.objs.size f c')) (leaving (lamEnv X scope s1.heap.objs.size f c') e) (fun _ z => L2N.CX X.prog X.w (envOfC x sg s.heap.objs.size g cdg :: X.stack) H1 s1 E e z) (fun e' z => L2N.CX X.prog X.w (envOfC x sg s.heap.objs.size g cdg :: X.stack) H1 s1 E e' z) s'
    exact PySem.W.kla_codeExpr (wpAny_mono ((hbody _ _ s1 H1 (hr.deeper _)).run [] _ _ H1 Q J ht) (fun v s' ⟨w', H', J', rv, q⟩ => ⟨w', H', J'.os, J'.bare, J'.base, J'.hok, rv, q⟩) fun e s' hq => hq)
  · match r, hq with
    | .error e, z => exact tk e s' (L2N.XE.of_call I1 hw z)
    | .ok (.ret u), z => exact I1.after z
/-- the def g that calls what it got, and catches: TT: what it makes of the lambda's reading -/
def GivesN (X : Cx) (Ng : List Str) (x : Str) (sg : Scope) (g : Addr) (cdg : Value) (bg : List Stmt) (a : Str) (TT : (XK → Hp → VK → Prop) → Hp → VK → Prop) : Prop :=
  ∀ (f c' : Addr) (s : Shared) (H : Hp) (Q : VK) (tl : XK → Hp → VK → Prop), Room 4 (X.A.deeper (envOfC x sg s.heap.objs.size g cdg)) →
    (∀ (W : WX) (pn : List (Addr × Obj)) (xe : Value → Shared → Prop) (E : XK) (p1 p2 : Pos), L2N.Takes (cxT X Ng x sg g cdg s H pn xe) W →
      PE (cxT X Ng x sg g cdg s H pn xe) (.Call (.Name a p1) [] [] p2) (fun σZ HZ Q => σZ[0]? = some (some (.ref f)) ∧ HZ c' = some (CodeO c' (qL X)) ∧ (∀ cls d H', E cls d H' → W cls d σZ H') ∧ tl E HZ Q)) → H c' = some (CodeO c' (qL X)) → TT tl H Q →
    ∃ t, PSs (cxOf CX0 X.prog X.w X.K X.mg X.base Ng x sg g cdg X.A X.stack s H E0).nox bg t ∧ t { nx := fun _ H' => Q .non H', rt := Q } (L2.start Ng [.ref f]) H
/-- x(lambda: body) -/
theorem pe_lamN {T : List (Addr × Str)} {TT : (XK → Hp → VK → Prop) → Hp → VK → Prop} {x a : Str} {g c P : Addr} {pg : Arguments} {bg : List Stmt} {sg : Scope} {dV kV doc pm cdv ct oc : Value} {an od : Option Addr} {osl : Array (Option Value)} {Ng : List Str}
    {params : Arguments} {body : Expr} {scope : Scope} {t : XK → TE} {p lpos pos : Pos} (hg : Gl X x) (hm : X.mg x = some (.ref g)) (hk : PySem.W.keepIn X.K (.ref g) = true)
    (lk : X.K.lookup g = some ⟨oc, od, .func (PySem.W.fnOf x x pg bg sg dV kV doc pm an cdv ct), osl⟩) (hcg : PySem.W.codeIn X.K cdv x = true) (hb : L2.Binds X.K (PySem.W.fnOf x x pg bg sg dV kV doc pm an cdv ct) [a] []) (Sg : FnScope Ng [a] sg) (hNg : Ng[0]? = some a) (hva : Vis sg a)
    (hG : GivesN X Ng x sg g cdv bg a TT) (TB : TabB X.base X.mg c P) (hcode : X.env.code = .ref c) (hmT : (P, qL X) ∈ T) (hu : ∀ p ∈ T, p.1 = P → p.2 = qL X) (hr : Room 5 X.A) (L : LamS X.env.scope scope) (hdef : defaultsOf params X.env = ([], []))
    (hbind : ∀ (q : Str) (cl : List (Str × Addr)) (pm cv ctv : Value), bindArgs (PySem.W.kla_fn "<lambda>" q params body scope cl pm cv ctv) ⟨[], []⟩ = pure [])
    (hbody : ∀ (A : Around) (l : List Env) (s : Shared) (H : Hp) (E : XK) (f c' : Addr), Room 3 (A.deeper (lamEnv X scope s.heap.objs.size f c')) → PE (lamCxN X A l s H E scope f c') body (t E))
    (hdb : (x == ("__debug__" : Str)) = false := by decide) (hd : (a == ("__debug__" : Str)) = false := by decide) (hcd : (a == ("__classdict__" : Str)) = false := by decide) :
    PE X (.Call (.Name x p) [.Lambda params body scope lpos] [] pos) (tLam T TT t) := by
  refine ⟨fun pins s σ H Q I ⟨hT, h⟩ => wpAny_Call_Name_kw (ld_glob I hg hm (PySem.W.callWith_K (h₀ := X.base) I.ok.mod.kin hk (show wpAny _ _ (spliced ((false, eval (.Lambda params body scope lpos) X.env) :: backTo pos (starEach [] X.env))) _ _ s from ?_) (by rfl) (by rfl)) hdb)⟩
  refine Calls.spliced_cons (lam_make2 I TB hcode hmT hu hT hdef (L.has I.ok) fun f c' pm' ctv H1 s' I1 eN T1 hf hfn hfr hco => Calls.spliced_nil ⟨I1.kIn, ?_⟩)
  have rc : codeAny (model X.prog X.w) X.A (.call (.ref g) ⟨[.ref f], []⟩) (CR CX0 X.stack X.prog X.w H1 s' Q E0) s' :=
    run_ofS (N := Ng) (ps := [a]) (us := [.ref f]) (vs := [.ref f]) (k := 4) lk hcg Sg hr I1.env0 (hb s' [.ref f] I1.kIn rfl) (.cons rfl .nil) rfl fun hr' => by
      obtain ⟨t', ht', hq'⟩ := hG f c' s' H1 Q (fun E H' Q' => t E σ H' Q') hr' (fun W pn xe E p1 p2 tk => pe_actN (k := 3) (i := 0) I1 L hf hfn hfr (hbind _ _ _ _ _) tk hr' (fun A l s H hr2 => hbody A l s H E f c' hr2) hNg hva hd hcd) hco (h H1 eN T1)
      exact ⟨t', ht'.nox, hq'⟩
  refine wpAny_call (codeAny_mono rc fun r s2 hq => ?_)
  match r, hq with
  | .error _, z => exact (show False from z).elim
  | .ok (.ret u), z => exact I1.after z
end
end EX
/-! EXj: a law's text whose last statements, reached at the end ct, make lambdas. -/
namespace EX
open PySem PySem.Spec PyProof.Rows L2 DL LamX
section
variable {K : PySem.W.Frag}
/-- where such a text leads: nx, or on to tl at ct -/
def PostW (K : PySem.W.Frag) (tl : TS) (D : Ends) (ad : Option Addr) (B : Hp) (σ : L2.St) (H : Hp) (ρ : Rho) : Fl × Rho × Dr → Prop
  | (.nx, ρ', c') => ∀ B' σ' H', Rl K ad B' σ' H' ρ' c' → FwS ad B σ H ρ B' σ' H' ρ' → D.nx σ' H'
  | (.ct, ρ', c') => ∀ B' σ' H', Rl K ad B' σ' H' ρ' c' → FwS ad B σ H ρ B' σ' H' ρ' → tl D σ' H'
  | _ => False
def ImpW (K : PySem.W.Frag) (tl t : TS) (f : SS) : Prop := ∀ (ad : Option Addr) (B : Hp) (σ : L2.St) (H : Hp) (ρ : Rho) (c : Dr) (r : Fl × Rho × Dr) (D : Ends), Rl K ad B σ H ρ c → f ρ c = some r → PostW K tl D ad B σ H ρ r → t D σ H
theorem PostW.trans {tl : TS} {D : Ends} {ad : Option Addr} {B B1 : Hp} {σ σ1 : L2.St} {H H1 : Hp} {ρ ρ1 : Rho} {c c1 : Dr} {r : Fl × Rho × Dr} (R : Rl K ad B σ H ρ c) (R1 : Rl K ad B1 σ1 H1 ρ1 c1) (x : FwS ad B σ H ρ B1 σ1 H1 ρ1)
    (h : PostW K tl D ad B σ H ρ r) : PostW K tl D ad B1 σ1 H1 ρ1 r := by
  match r, h with
  | (.nx, ρ', c'), h => exact fun B' σ' H' R' y => h B' σ' H' R' (FwS.trans R R1 x y)
  | (.ct, ρ', c'), h => exact fun B' σ' H' R' y => h B' σ' H' R' (FwS.trans R R1 x y)
def sSeqW (f g : SS) : SS := fun ρ c => (f ρ c).bind fun r => match r with
  | (.nx, ρ1, c1) => g ρ1 c1
  | _ => none
theorem impW_seq {tl t u : TS} {f g : SS} (h : ImpS K t f) (h2 : ImpW K tl u g) : ImpW K tl (tSeq t u) (sSeqW f g) := fun ad B σ H ρ c r D R e q => by
  obtain ⟨⟨f1, ρ1, c1⟩, e1, e2⟩ := Option.bind_eq_some_iff.mp e
  cases f1 with
  | nx => exact h ad B σ H ρ c _ _ R e1 fun B1 σ1 H1 R1 x => h2 ad B1 σ1 H1 ρ1 c1 r D R1 e2 (q.trans R R1 x)
  | _ => cases e2
theorem impW_if {tl : TS} {t : TT} {u v : TS} {s : SB} {f g : SS} (ht : ImpT K t s) (h1 : ImpW K tl u f) (h2 : ImpW K tl v g) : ImpW K tl (tIfS t u v) (sIfS s f g) := fun ad B σ H ρ c r D R e q => by
  obtain ⟨⟨b, c1⟩, e1, e2⟩ := Option.bind_eq_some_iff.mp e
  refine ht ad B σ H ρ c b c1 _ R e1 fun B1 H1 x => ?_
  have q' := q.trans R (R.fw x) (FwS.ofFw R x)
  cases b with
  | true => exact h1 ad B1 σ H1 ρ c1 r D (R.fw x) e2 q'
  | false => exact h2 ad B1 σ H1 ρ c1 r D (R.fw x) e2 q'
theorem impW_end {tl : TS} : ImpW K tl tl sCnt := fun ad B σ H ρ c r D R e q => by cases e; exact q B σ H R (FwS.refl R)
theorem impW_next {tl : TS} : ImpW K tl tNext sNext := fun ad B σ H ρ c r D R e q => by cases e; exact q B σ H R (FwS.refl R)
/-! ### tables aside -/
def nt (B : Hp) : Hp := fun a => match B a with
  | some (.tbl _) => none
  | o => o
theorem nt_some {B : Hp} {a : Addr} {o : HO} (h : nt B a = some o) : B a = some o ∧ ∀ ps, o ≠ .tbl ps := by
  unfold nt at h
  split at h
  · cases h
  · rename_i hn
    exact ⟨h, fun ps z => hn ps (by rw [h, z])⟩
theorem nt_of {B : Hp} {a : Addr} {o : HO} (h : B a = some o) (n : ∀ ps, o ≠ .tbl ps) : nt B a = some o := by
  unfold nt
  split
  · rename_i ps e
    rw [h] at e
    exact absurd (Option.some.inj e) (n ps)
  · exact h
mutual
theorem dp_nt {B : Hp} : ∀ (d : D) (v : V), DL.Dp K B v d → DL.Dp K (nt B) v d
  | .none, _, h => by cases h; exact .non
  | .bool b, _, h => by cases h; exact .bl b
  | .int i, _, h => by cases h; exact .int i
  | .str x, _, h => by cases h; exact .str x
  | .list ds, _, h => by
    cases h with
    | lst hs ha => exact .lst (nt_of hs fun ps z => by cases z) (dpAll_nt ds _ ha)
  | .tuple ds, _, h => by
    cases h with
    | tup hs ha => exact .tup (nt_of hs fun ps z => by cases z) (dpAll_nt ds _ ha)
  | .dict _, _, h => by cases h
theorem dpAll_nt {B : Hp} : ∀ (ds : List D) (vs : List V), DL.DpAll K B vs ds → DL.DpAll K (nt B) vs ds
  | [], _, h => by cases h; exact .nil
  | d :: ds, _, h => by
    cases h with
    | cons h1 h2 => exact .cons (dp_nt d _ h1) (dpAll_nt ds _ h2)
end
theorem same_nt {B H H1 : Hp} (s : Same B H) (e : ExtN H H1) : Same (nt B) H1 := fun a o h => e a o (s a o (nt_some h).1) (nt_some h).2
theorem sqL_ext {H H' : Hp} {a : Addr} {ns : List Int} (h : SqL K H a (ns.map V.int)) (e : ExtN H H') : SqL K H' a (ns.map V.int) := by
  rcases h with (h | ⟨o, h⟩) | h
  · exact .inl (.inl (e _ _ h fun ps z => by cases z))
  · exact .inl (.inr ⟨o, e _ _ h fun ps z => by cases z⟩)
  · exact .inr h
/-- a lambda that lets an S out -/
abbrev tLamR (K : PySem.W.Frag) (S : Addr) (cond : List D → Prop) (i j : Nat) : XK → TE := fun E => tCallS (spR K S cond) (WE fun cls d _ H => E cls d H) (tCons (tVar i) (tCons (tVar j) tNil))
/-- told of a lambda that always lets an S out: d (as X.TTz) -/
def TTr (K : PySem.W.Frag) (S : Addr) (d : D) : (XK → Hp → VK → Prop) → Hp → VK → Prop := fun tl H Q => ∀ (Ech : XK) (Nd : VK), (∀ cls dd H', (cls = .ref S ∧ dd = none ∧ spE K d H' Q) → Ech cls dd H') → tl Ech H Nd
/-- if told(lambda ..) != (x,): .. -/
theorem lam_if {T : List (Addr × Str)} {S : Addr} {cond : List D → Prop} {i j : Nat} {x : Str} {r : R2} {u : TS} {D : Ends} {σ : L2.St} {H B : Hp} {v w : V} {ds : List DL.D} (hr : OpD K r neD) (hi : σ[i]? = some (some v)) (hj : σ[j]? = some (some w)) (sB : Same B H) (da : DL.DpAll K B [v, w] ds) (hc : cond ds) (hx : neD (.tuple [.str x]) (.tuple [.str x]) = some (.bool false)) (hT : Tabs T H)
    (h : ∀ H', ExtN H H' → Tabs T H' → D.nx σ H') : tIfS (tTest (tOp r (tLam T (TTr K S (.tuple [.str x])) (tLamR K S cond i j)) (tTup (tCons (tC (.str x)) tNil)))) u tNext D σ H := by
  refine ⟨hT, fun H1 e1 T1 Ech Nd hE => ⟨v, hi, w, hj, ds, nt B, same_nt sB e1, dpAll_nt _ _ da, hc, fun B2 H2 g => hE _ _ _ ⟨rfl, rfl, emp, same_emp _, fun z B3 H3 g3 dz => ⟨by show 1 ≤ sizeLine; decide, fun p np => ?_⟩⟩⟩⟩
  obtain ⟨g4, d4⟩ := Grow.newTup (K := K) (vs := [.str x]) (ds := [.str x]) g3.bh np (.cons (.str x) .nil)
  refine hr _ _ _ _ _ _ (.bool false) _ g4.bh (dp_mono g4.bb _ _ dz) d4 hx fun y B5 H5 g5 dy => ?_
  cases dy
  refine ⟨false, rfl, ?_⟩
  have hs : Same H1 H5 := ((g.hh.trans g3.hh).trans g4.hh).trans g5.hh
  exact h H5 (e1.trans (ExtN.of hs)) (T1.ext hs)
end
theorem ne_short : neD (.tuple [.str "NowError Short +"]) (.tuple [.str "NowError Short +"]) = some (.bool false) := by
  have h : SeqAt.shaped (.tuple [.str "NowError Short +"]) = true := by decide +kernel
  unfold neD
  rw [if_pos ⟨h, h⟩]
  simp [PyData.eqv, PyData.eqvAll]
end EX
/-! EXk: a law's own def whose last statements make lambdas. -/
namespace EX
open PySem PySem.Spec PyProof.Rows L2 DL LamX
section
variable {K : PySem.W.Frag}
/-- as spLaw, the tables of code objects in sight -/
def spLawT (K : PySem.W.Frag) (T : List (Addr × Str)) : Sp := fun vs H Q _ => ∃ (a : Addr) (ns : List Int), vs = [.ref a] ∧ SqL K H a (ns.map V.int) ∧ ns.length ≤ 63 ∧ Tabs T H ∧ ∀ H', Q (.bl true) H'
/-- where a turn of the law ends -/
def EndOk (v : V) (n i j : Nat) (cond : List D → Prop) : Fl × Rho × Dr → Prop
  | (.nx, ρ', _) => ρ'[0]? = some (.op v) ∧ ρ'.length = n + 3
  | (.ct, ρ', _) => (ρ'[0]? = some (.op v) ∧ ρ'.length = n + 3) ∧ ∃ d e, ρ'[i]? = some (.im d) ∧ ρ'[j]? = some (.im e) ∧ cond [d, e]
  | _ => False
/-- what the last statements ask -/
def Last (K : PySem.W.Frag) (T : List (Addr × Str)) (i j : Nat) (cond : List D → Prop) (tl : TS) : Prop := ∀ (D : Ends) (σ : L2.St) (H B : Hp) (v w : V) (ds : List DL.D), σ[i]? = some (some v) → σ[j]? = some (some w) → Same B H → DL.DpAll K B [v, w] ds → cond ds → Tabs T H →
  (∀ H', ExtN H H' → Tabs T H' → D.nx σ H') → tl D σ H
section
variable {P : Program} {w : World} {mg : Str → Option Value} {base : Heap} {st : Stmt} {f : Addr} {N : List Str} {k n i j : Nat} {M : Int} {kV doc pm ct oc cd : Value} {od an : Option Addr} {osl : Array (Option Value)} {cond : List D → Prop} {T : List (Addr × Str)}
theorem okLawT {F : List Int → Int → Option Dr} {g : SS} (lk : K.lookup f = some ⟨oc, od, .func (PySem.W.fnOf "law" "law" (defArgs st) (defBody st) (defScope st) .none kV doc pm an cd ct), osl⟩) (hcd : PySem.W.codeIn K cd "law" = true) (S : FnScope N ["script"] (defScope st)) (hN : N.length = n + 3) (hM : 0 ≤ M ∧ M ≤ 1000)
    (hb : ∀ (A : Around) (l : List Env) (s : Shared) (H : Hp) (E : XK), Room k (A.deeper (envOfC "law" (defScope st) s.heap.objs.size f cd)) → ∃ t tl, PSs (cxOf CX0 P w K mg base N "law" (defScope st) f cd A l s H E).nox (defBody st)
      (tSeq (tFor (iRng1 (tCons (tCB (rMaxA K) (tCons (tC (.int 1)) (tCons (tCB (rMinA K) (tCons (tC (.int M)) (tCons (tCB (rLenS K) (tCons (tVar 0) tNil)) tNil))) tNil))) tNil)) (gName 1)
        (tSeq (tAsg (tCall (spCell K F) [] E0 (tCons (tVar 0) (tCons (tVar 1) tNil))) (gName 2)) t)) (tRet (tC (.bl true)))) ∧ ImpW K tl t g ∧ Last K T i j cond tl)
    (hF : ∀ (ns : List Int) (z : Nat), ns.length ≤ 63 → z < 1000 → ∃ c, F ns z = some c ∧ ∀ v, ∃ r, g (rhoL v z n) c = some r ∧ EndOk v n i j cond r) :
    FnOk P w K mg base CX0 (k + 1) f (PySem.W.fnOf "law" "law" (defArgs st) (defBody st) (defScope st) .none kV doc pm an cd ct) ["script"] (spLawT K T) := by
  refine fn_of lk hcd S (fun vs H Q E ⟨a, ns, e, _⟩ => by rw [e]; rfl) fun A l s H vs Q E hr h => ?_
  obtain ⟨t, tl, ht, im, la⟩ := hb A l s H E hr
  refine ⟨_, ht.nox, ?_⟩
  obtain ⟨a, ns, rfl, hS, hlen, hT, q⟩ := h
  have s0 : (L2.start N [V.ref a])[0]? = some (some (.ref a)) := start_get rfl
  have sl : (L2.start N [V.ref a]).length = n + 3 := by
    unfold L2.start
    rw [List.length_append, List.length_map, List.length_replicate, hN]
    show 1 + (n + 3 - 1) = n + 3
    omega
  obtain ⟨J, ej, hj0, hj1⟩ : ∃ J : Int, J = (if (if (((ns.map V.int).length : Nat) : Int) < M then (((ns.map V.int).length : Nat) : Int) else M) > 1 then (if (((ns.map V.int).length : Nat) : Int) < M then (((ns.map V.int).length : Nat) : Int) else M) else 1) ∧ 0 ≤ J ∧ J ≤ 1000 := by
    refine ⟨_, rfl, ?_, ?_⟩
    · split <;> omega
    · split
      · split <;> omega
      · omega
  refine ⟨.ref a, s0, a, _, rfl, .inl hS, .inr ⟨M, _, rfl, .inr ⟨1, _, rfl, J, by rw [ej], by omega, by omega, ?_⟩⟩⟩
  refine for_range (lo := 0) (n := J.toNat) (fun _ σ' H' => (σ'.length = n + 3 ∧ σ'[0]? = some (some (.ref a))) ∧ SqL K H' a (ns.map V.int) ∧ Tabs T H') ⟨⟨sl, s0⟩, hS, hT⟩ (fun z σ' H' hi hP => ?_) fun σ' H' _ => q H'
  obtain ⟨⟨pl, p0⟩, pS, pT⟩ := hP
  obtain ⟨c, hc, hg⟩ := hF ns z hlen (by omega)
  have g0 : (σ'.set 1 (some (V.int (0 + (z : Int)))))[0]? = some (some (.ref a)) := by rw [List.getElem?_set_ne (by decide)]; exact p0
  have g1 : (σ'.set 1 (some (V.int (0 + (z : Int)))))[1]? = some (some (.int (0 + (z : Int)))) := List.getElem?_set_self (by rw [pl]; omega)
  refine ⟨.ref a, g0, .int (0 + (z : Int)), g1, a, ns, z, c, by rw [Int.zero_add]; rfl, pS, hc, fun p H2 sm np hp => ?_⟩
  obtain ⟨r, e1, e2⟩ := hg (.ref a)
  have R : Rl K (some p) emp ((σ'.set 1 (some (V.int (0 + (z : Int))))).set 2 (some (.ref p))) H2 (rhoL (.ref a) z n) c := by
    refine rl_law hp ?_ ?_ (List.getElem?_set_self (by rw [List.length_set, pl]; omega)) (by rw [List.length_set, List.length_set]; exact pl)
    · rw [List.getElem?_set_ne (by decide)]; exact g0
    · rw [List.getElem?_set_ne (by decide), g1, Int.zero_add]
  have no : ∀ b, ¬ Owned (rhoL (.ref a) z n) ((σ'.set 1 (some (V.int (0 + (z : Int))))).set 2 (some (.ref p))) b := noOwned fun m s' z1 => by
    match m, z1 with
    | 0, z1 => cases z1; rfl
    | 1, z1 => cases z1; rfl
    | 2, z1 => cases z1; rfl
    | m + 3, z1 => rw [(List.mem_replicate.mp (List.mem_of_getElem? (show (List.replicate n Sl.un)[m]? = some s' from z1))).2]; rfl
  have sameL : ∀ {B3 σ3 H3 ρ3}, FwS (some p) emp ((σ'.set 1 (some (V.int (0 + (z : Int))))).set 2 (some (.ref p))) H2 (rhoL (.ref a) z n) B3 σ3 H3 ρ3 → Same H' H3 := fun y b o hb => y.keep b o (fun e => by cases e; rw [np] at hb; cases hb) (sm b o hb) (no b)
  refine im (some p) emp _ H2 _ c r _ R e1 ?_
  match r, e2 with
  | (.nx, ρ', c'), e2 =>
    intro B3 σ3 H3 R3 y
    exact ⟨⟨by rw [R3.len, e2.2], R3.slot 0 _ e2.1⟩, sqL_ext pS (ExtN.of (sameL y)), pT.ext (sameL y)⟩
  | (.ct, ρ', c'), e2 =>
    obtain ⟨e2, d, e, i1, i2, hcd2⟩ := e2
    intro B3 σ3 H3 R3 y
    obtain ⟨v1, j1, k1⟩ := R3.slot i _ i1
    obtain ⟨v2, j2, k2⟩ := R3.slot j _ i2
    exact la _ σ3 H3 B3 v1 v2 [d, e] j1 j2 R3.sub (.cons k1 (.cons k2 .nil)) hcd2 (pT.ext (sameL y)) fun H4 eN T4 => ⟨⟨by rw [R3.len, e2.2], R3.slot 0 _ e2.1⟩, sqL_ext (sqL_ext pS (ExtN.of (sameL y))) eN, T4⟩
end
end
end EX
namespace X
open PySem PySem.Spec L2 DL EX L2H

structure TE (K : PySem.W.Frag) (mg : Str → Option Value) where
  S : Addr
  F : Addr
  sh : ShortC K mg S F
  C_Empty : Addr
  o_Empty : OneC K mg S C_Empty "Empty" false
  C_FormError : Addr
  o_FormError : OneC K mg S C_FormError "FormError" false
  C_Full : Addr
  o_Full : OneC K mg S C_Full "Full" false
  C_NoCap : Addr
  o_NoCap : OneC K mg S C_NoCap "NoCap" false
  C_NoFrame : Addr
  o_NoFrame : OneC K mg S C_NoFrame "NoFrame" false
  C_NoPlace : Addr
  o_NoPlace : OneC K mg S C_NoPlace "NoPlace" false
  C_NoRow : Addr
  o_NoRow : OneC K mg S C_NoRow "NoRow" false
  C_NothingLeft : Addr
  o_NothingLeft : OneC K mg S C_NothingLeft "NothingLeft" false
  C_NowError : Addr
  o_NowError : OneC K mg S C_NowError "NowError" true
  C_Short : Addr
  o_Short : OneC K mg S C_Short "Short" true
section
variable {P : Program} {w : World} {K : PySem.W.Frag} {mg : Str → Option Value} {base : Heap}
noncomputable def S_l_kind_of (a : Addr) : SS := sSeq (sAsg (sLst (sCons (sIs 0 (.ref a) false) (sCons (sIs 0 (.ref a) false) (sCons (sIs 0 (.ref a) false) (sCons (sIs 0 (.ref a) false) sNil))))) (qN 1)) (sSeq (sAsg (sOp addD (sV 1) (sLst (sCons (sIs 0 (.ref a) false) (sCons (sIs 0 (.ref a) false) (sCons (sIs 0 (.ref a) false) (sCons (sIs 0 (.ref a) false) sNil)))))) (qN 1)) (sSeq (sAsg (sOp addD (sV 1) (sLst (sCons (sIs 0 (.ref a) true) (sCons (sIs 0 (.ref a) true) (sCons (sIs 0 (.ref a) true) sNil))))) (qN 1)) (sSeq (sAsg (sLst (sCons (sC (.str "Empty")) (sCons (sC (.str "FormError")) (sCons (sC (.str "Full")) (sCons (sC (.str "NoCap")) (sCons (sC (.str "NoFrame")) (sCons (sC (.str "NoPlace")) (sCons (sC (.str "NoRow")) (sCons (sC (.str "NothingLeft")) (sCons (sC (.str "NowError")) (sCons (sC (.str "Short")) sNil))))))))))) (qN 2)) (sRet (sJoin (sC (.str " ")) (sOfL (sLc (sZipH (sOp addD (sV 2) (sLst (sCons (sC (.str "+")) sNil))) (sV 1)) (qTup (qCons (qN 3) (qCons (qN 4) qNil))) (sB (sV 4)) (sV 3) [3, 4])))))))
theorem ok_l_kind_of (T : TX K mg) (U : TE K mg) (hev : ∀ a, ∃ ρ' c', S_l_kind_of a (.op (.ref a) :: List.replicate 4 .un) (0, 0) = some (.rt (.str "NowError Short +"), ρ', c')) : FnE P w K mg base 2 U.S T.f_l_kind_of T.d_l_kind_of "e" (spE K (.str "NowError Short +")) := by
  refine okE (k := 1) (n := 4) T.F_l_kind_of sc_l_kind_of rfl fun cdv A l s H q hot od hr => ?_
  have hq : q ∈ (cxE P w K mg base N_l_kind_of "_law_kind_of" (defScope s_l_kind_of) T.f_l_kind_of cdv A l s H q).pn := List.mem_singleton.mpr rfl
  refine ⟨_, S_l_kind_of q.1, pss_cons (ps_set (i := 1) sc_l_kind_of.nd rfl (by first | exact Or.inl rfl | exact Or.inr rfl) (pe_lst (pa_cons (pe_callB (call_is1 (q := q) U.sh.e hq od) (by rfl) T.b_isinstance (by decide +kernel) (pa_cons (pv 0) (pa_cons (pe_glob (v := .ref U.C_Empty) (by rfl) U.o_Empty.g rfl) pa_nil))) (pa_cons (pe_callB (call_is1 (q := q) U.sh.e hq od) (by rfl) T.b_isinstance (by decide +kernel) (pa_cons (pv 0) (pa_cons (pe_glob (v := .ref U.C_FormError) (by rfl) U.o_FormError.g rfl) pa_nil))) (pa_cons (pe_callB (call_is1 (q := q) U.sh.e hq od) (by rfl) T.b_isinstance (by decide +kernel) (pa_cons (pv 0) (pa_cons (pe_glob (v := .ref U.C_Full) (by rfl) U.o_Full.g rfl) pa_nil))) (pa_cons (pe_callB (call_is1 (q := q) U.sh.e hq od) (by rfl) T.b_isinstance (by decide +kernel) (pa_cons (pv 0) (pa_cons (pe_glob (v := .ref U.C_NoCap) (by rfl) U.o_NoCap.g rfl) pa_nil))) pa_nil)))))) (pss_cons (ps_set (i := 1) sc_l_kind_of.nd rfl (by first | exact Or.inl rfl | exact Or.inr rfl) (pe_op (op_addK (K := K) rfl) (pv 1) (pe_lst (pa_cons (pe_callB (call_is1 (q := q) U.sh.e hq od) (by rfl) T.b_isinstance (by decide +kernel) (pa_cons (pv 0) (pa_cons (pe_glob (v := .ref U.C_NoFrame) (by rfl) U.o_NoFrame.g rfl) pa_nil))) (pa_cons (pe_callB (call_is1 (q := q) U.sh.e hq od) (by rfl) T.b_isinstance (by decide +kernel) (pa_cons (pv 0) (pa_cons (pe_glob (v := .ref U.C_NoPlace) (by rfl) U.o_NoPlace.g rfl) pa_nil))) (pa_cons (pe_callB (call_is1 (q := q) U.sh.e hq od) (by rfl) T.b_isinstance (by decide +kernel) (pa_cons (pv 0) (pa_cons (pe_glob (v := .ref U.C_NoRow) (by rfl) U.o_NoRow.g rfl) pa_nil))) (pa_cons (pe_callB (call_is1 (q := q) U.sh.e hq od) (by rfl) T.b_isinstance (by decide +kernel) (pa_cons (pv 0) (pa_cons (pe_glob (v := .ref U.C_NothingLeft) (by rfl) U.o_NothingLeft.g rfl) pa_nil))) pa_nil))))))) (pss_cons (ps_set (i := 1) sc_l_kind_of.nd rfl (by first | exact Or.inl rfl | exact Or.inr rfl) (pe_op (op_addK (K := K) rfl) (pv 1) (pe_lst (pa_cons (pe_callB (call_is1 (q := q) U.sh.e hq od) (by rfl) T.b_isinstance (by decide +kernel) (pa_cons (pv 0) (pa_cons (pe_glob (v := .ref U.C_NowError) (by rfl) U.o_NowError.g rfl) pa_nil))) (pa_cons (pe_callB (call_is1 (q := q) U.sh.e hq od) (by rfl) T.b_isinstance (by decide +kernel) (pa_cons (pv 0) (pa_cons (pe_glob (v := .ref U.C_Short) (by rfl) U.o_Short.g rfl) pa_nil))) (pa_cons (pe_callB (call_is1 (q := q) U.sh.e hq od) (by rfl) T.b_isinstance (by decide +kernel) (pa_cons (pv 0) (pa_cons (pe_bltn (v := .ty "ValueError") (by rfl) T.b_ValueError (by decide +kernel) rfl) pa_nil))) pa_nil)))))) (pss_cons (ps_set (i := 2) sc_l_kind_of.nd rfl (by first | exact Or.inl rfl | exact Or.inr rfl) (pe_lst (pa_cons pe_str (pa_cons pe_str (pa_cons pe_str (pa_cons pe_str (pa_cons pe_str (pa_cons pe_str (pa_cons pe_str (pa_cons pe_str (pa_cons pe_str (pa_cons pe_str pa_nil)))))))))))) (pss_one (ps_ret (pe_join pe_str (pe_lcH (own := [("title", 3), ("one", 4)]) hq hot sc_l_kind_of.nd (pi_zipH (by rfl) T.b_zip (pa_cons (pe_op (op_addK (K := K) rfl) (pv 2) (pe_lst (pa_cons pe_str pa_nil))) (pa_cons (pv 1) pa_nil))) (blkOk_by (own := [("title", 3), ("one", 4)]) (N := N_l_kind_of) (sc := defScope s_l_kind_of) (by decide +kernel)) (fun _ _ _ _ _ => pg_tupHK (K := K) (n := 2) rfl ⟨q, hot, List.mem_singleton.mpr rfl⟩ (pgs_cons (pg_name (i := 3) sc_l_kind_of.nd rfl (by first | exact Or.inl rfl | exact Or.inr rfl)) (pgs_cons (pg_name (i := 4) sc_l_kind_of.nd rfl (by first | exact Or.inl rfl | exact Or.inr rfl)) pgs_nil))) (fun _ _ _ _ _ => pts_one (pt_val (pv 4))) (fun _ _ _ _ _ => pv 3)))))))), ?_, hev q.1⟩
  exact imp_seq (imp_asg (imp_lst (imp_cons (imp_is1 U.o_Empty.cls (U.o_Empty.kit U.sh.me)) (imp_cons (imp_is1 U.o_FormError.cls (U.o_FormError.kit U.sh.me)) (imp_cons (imp_is1 U.o_Full.cls (U.o_Full.kit U.sh.me)) (imp_cons (imp_is1 U.o_NoCap.cls (U.o_NoCap.kit U.sh.me)) imp_nil))))) (imp_gN 1)) (imp_seq (imp_asg (imp_op d_add (imp_v 1) (imp_lst (imp_cons (imp_is1 U.o_NoFrame.cls (U.o_NoFrame.kit U.sh.me)) (imp_cons (imp_is1 U.o_NoPlace.cls (U.o_NoPlace.kit U.sh.me)) (imp_cons (imp_is1 U.o_NoRow.cls (U.o_NoRow.kit U.sh.me)) (imp_cons (imp_is1 U.o_NothingLeft.cls (U.o_NothingLeft.kit U.sh.me)) imp_nil)))))) (imp_gN 1)) (imp_seq (imp_asg (imp_op d_add (imp_v 1) (imp_lst (imp_cons (imp_is1 U.o_NowError.cls (U.o_NowError.kit U.sh.me)) (imp_cons (imp_is1 U.o_Short.cls (U.o_Short.kit U.sh.me)) (imp_cons (imp_is1 (fun _ r => r) U.sh.kitV) imp_nil))))) (imp_gN 1)) (imp_seq (imp_asg (imp_lst (imp_cons imp_str (imp_cons imp_str (imp_cons imp_str (imp_cons imp_str (imp_cons imp_str (imp_cons imp_str (imp_cons imp_str (imp_cons imp_str (imp_cons imp_str (imp_cons imp_str imp_nil))))))))))) (imp_gN 2)) (imp_ret (imp_join imp_str (imp_ofL (imp_lc (vs := [3, 4]) (imp_zipH (imp_op d_add (imp_v 2) (imp_lst (imp_cons imp_str imp_nil))) (imp_v 1)) (imp_gTup (imp_gCons (imp_gN 3) (imp_gCons (imp_gN 4) imp_gNil)) (qCons_len (qCons_len qNil_len))) (only_tup (only_cons (only_N (by decide)) (only_cons (only_N (by decide)) only_nil mono_N mono_nil) mono_N (mono_cons mono_N mono_nil))) (mono_tup (mono_cons mono_N (mono_cons mono_N mono_nil))) (imp_test (imp_v 4)) (imp_v 3))))))))
end
end X
namespace X
open PySem PySem.Spec L2 DL EX L2H
theorem kind_ev (a : Addr) : ∃ ρ' c', S_l_kind_of a (.op (.ref a) :: List.replicate 4 .un) (0, 0) = some (.rt (.str "NowError Short +"), ρ', c') := by
  have h1 : ∀ b, sIs 0 (.ref a) b [.op (.ref a), .un, .un, .un, .un] (0, 0) = some (.bool b, (0, 0)) := fun b => sIs_eq rfl
  have h2 : ∀ b x, sIs 0 (.ref a) b [.op (.ref a), .im x, .un, .un, .un] (0, 0) = some (.bool b, (0, 0)) := fun b x => sIs_eq rfl
  refine ⟨[.op (.ref a), .im (.list [.bool false, .bool false, .bool false, .bool false, .bool false, .bool false, .bool false, .bool false, .bool true, .bool true, .bool true]),
    .im (.list [.str "Empty", .str "FormError", .str "Full", .str "NoCap", .str "NoFrame", .str "NoPlace", .str "NoRow", .str "NothingLeft", .str "NowError", .str "Short"]), .un, .un], (0, 0), ?_⟩
  have e0 : (Sl.op (.ref a) :: List.replicate 4 Sl.un) = [.op (.ref a), .un, .un, .un, .un] := rfl
  have sq : ∀ {f g : SS} {ρ ρ1 : Rho} {r}, f ρ (0, 0) = some (.nx, ρ1, (0, 0)) → g ρ1 (0, 0) = r → sSeq f g ρ (0, 0) = r := fun e1 e2 => by rw [ev_sSeq, e1]; exact e2
  rw [e0]
  unfold S_l_kind_of
  refine sq (ρ1 := [.op (.ref a), .im (.list [.bool false, .bool false, .bool false, .bool false]), .un, .un, .un]) ?_ (sq (ρ1 := [.op (.ref a), .im (.list [.bool false, .bool false, .bool false, .bool false, .bool false, .bool false, .bool false, .bool false]), .un, .un, .un]) ?_
    (sq (ρ1 := [.op (.ref a), .im (.list [.bool false, .bool false, .bool false, .bool false, .bool false, .bool false, .bool false, .bool false, .bool true, .bool true, .bool true]), .un, .un, .un]) ?_ ?_))
  · simp only [ev_sAsg, ev_sLst, ev_sCons, ev_sNil, h1, Option.bind_some]; rfl
  · simp only [ev_sAsg, ev_sLst, ev_sCons, ev_sNil, ev_sOp, ev_sV, h2, Option.bind_some, List.getElem?_cons_succ, List.getElem?_cons_zero]; rfl
  · simp only [ev_sAsg, ev_sLst, ev_sCons, ev_sNil, ev_sOp, ev_sV, h2, Option.bind_some, List.getElem?_cons_succ, List.getElem?_cons_zero]; rfl
  · rfl
end X
namespace X
open PySem PySem.Spec L2 DL EX L2H
/-- what is told for the opaque v in the slot i -/
noncomputable def sGive (i : Nat) (v : V) (d : D) : SE := open Classical in fun ρ c => if ρ[i]? = some (.op v) then some (d, c) else none
theorem imp_give {K : PySem.W.Frag} {a : Addr} {i : Nat} {z : D} : ImpE K (tE a i (spE K z)) (sGive i (.ref a) z) := fun ad B σ H ρ c d c' Q R e q => by
  unfold sGive at e
  split at e
  · rename_i e0
    cases e
    exact ⟨R.slot i _ e0, B, R.sub, fun v B' H' g dv => q v B' H' (g.fw fun a e => R.cell a e) dv⟩
  · cases e
section
variable {P : Program} {w : World} {K : PySem.W.Frag} {mg : Str → Option Value} {base : Heap}
noncomputable def S_l_refusal (a : Addr) : SS := sSeq (sIfS (sB (sIs 0 (.ref a) false)) sNever sNext) (sRet (sTup (sCons (sGive 0 (.ref a) (.str "NowError Short +")) sNil)))
theorem refusal_ev (a : Addr) : ∃ ρ' c', S_l_refusal a (.op (.ref a) :: List.replicate 0 .un) (0, 0) = some (.rt (.tuple [.str "NowError Short +"]), ρ', c') := by
  refine ⟨[.op (.ref a)], (0, 0), ?_⟩
  have h1 : sIs 0 (.ref a) false [.op (.ref a)] (0, 0) = some (.bool false, (0, 0)) := sIs_eq rfl
  have h2 : sGive 0 (.ref a) (.str "NowError Short +") [.op (.ref a)] (0, 0) = some (.str "NowError Short +", (0, 0)) := if_pos rfl
  show S_l_refusal a [.op (.ref a)] (0, 0) = _
  unfold S_l_refusal
  rw [ev_sSeq, ev_sIfS, ev_sB, h1]
  show sRet _ [.op (.ref a)] (0, 0) = _
  rw [ev_sRet, ev_sTup, ev_sCons, h2]
  rfl
theorem ok_l_refusal (T : TX K mg) (U : TE K mg) : FnE P w K mg base 3 U.S T.f_l_refusal T.d_l_refusal "e" (spE K (.tuple [.str "NowError Short +"])) := by
  refine okE (k := 2) (n := 0) T.F_l_refusal sc_l_refusal rfl fun cdv A l s H q hot od hr => ?_
  have hq : q ∈ (cxE P w K mg base N_l_refusal "_law_refusal" (defScope s_l_refusal) T.f_l_refusal cdv A l s H q).pn := List.mem_singleton.mpr rfl
  refine ⟨_, S_l_refusal q.1, pss_cons (ps_if (pt_val (pe_callB (call_isT (q := q) U.sh.e hq od) (by rfl) T.b_isinstance (by decide +kernel) (pa_cons (pv 0) (pa_cons (pe_tup (pa_cons (pe_glob (v := .ref U.C_Empty) (by rfl) U.o_Empty.g rfl) (pa_cons (pe_glob (v := .ref U.C_Full) (by rfl) U.o_Full.g rfl) pa_nil))) pa_nil)))) (pss_one ps_never) pss_nil)
    (pss_one (ps_ret (pe_tup (pa_cons (pe_callE (q := q) (i := 0) (ok_l_kind_of T U kind_ev) hr hq hot od (by rfl) T.g_l_kind_of T.F_l_kind_of.kp (b_l_kind_of T) (pv 0)) pa_nil)))), ?_, refusal_ev q.1⟩
  exact imp_seq (imp_if (imp_test (imp_isT (.own _) (.own _) (kitAny_cons (U.o_Empty.kit U.sh.me) (fun _ => kitAny_cons (U.o_Full.kit U.sh.me) (fun _ => kitAny_nil) (fun z => nomatch z)) (fun z => nomatch z)))) (imp_never fun _ _ => rfl) imp_next) (imp_ret (imp_tup (imp_cons imp_give imp_nil)))
end
end X
namespace X
open PySem PySem.Spec L2 DL EX L2H

theorem ps_raise_z {P : Program} {w : World} {K : PySem.W.Frag} {mg : Str → Option Value} {base : Heap} {N : List Str} {qual : Str} {sc : Scope} {f : Addr} {cd : Value} {A : Around} {l : List Env} {s : Shared} {H : Hp} {E : XK} {S F : Addr} {m : Str} {j : Nat} {p p2 pos pos2 : Pos} (h : ShortC K mg S F)
    (hg : Gl (cxOf (L2N.CX P w) P w K mg base N qual sc f cd A l s H E) "Short") : PS (cxOf (L2N.CX P w) P w K mg base N qual sc f cd A l s H E) (.Raise (some (.Call (.Name "Short" p) [.Constant (.str m) j p2] [] pos)) none pos2) (tRz E S) :=
  L2N.ps_raise (W := fun c d _ H => E c d H) rfl (L2N.takes_of rfl rfl rfl rfl) (L2N.pmk_own PySem.F.excBase_ValueError h.x h.g h.kp (raises_own h.bs h.t) hg)
theorem rz_shape (tt tt2 : TT) (ta : TA) (i j : Nat) (E : XK) (S : Addr) : ∀ (nx : L2.St → Hp → Prop) (rt : VK) (bk : L2.St → Hp → Prop) (σ : L2.St) (H : Hp), tIfS tt (tSeq (tPar i j ta) (tIfS tt2 tCont tNext)) tNext ⟨nx, rt, bk, fun _ H' => E (.ref S) none H'⟩ σ H →
    tIfS tt (tSeq (tPar i j ta) (tIfS tt2 (tRz E S) tNext)) tNext ⟨nx, rt, fun _ _ => False, fun _ _ => False⟩ σ H := by
  intro nx rt bk σ H h
  unfold tIfS tSeq tPar tNext tCont at h
  unfold tIfS tSeq tPar tNext tRz
  exact h
def SR_need_long : SS := (sIfS (sB (sOp gtD (sCB lenD (sCons (sV 1) sNil)) (sC (.int 1))))
 (sThen [2, 3] (sSeq (sMany [2, 3] (sAvP (sOp ixD (sOp ixD (sV 1) (sUn negD (sC (.int 2)))) (sC (.int 0))) (sAvP (sOp ixD (sOp ixD (sV 1) (sUn negD (sC (.int 1)))) (sC (.int 0))) sAvNil)))
 (sIfS (sB (sOp ltD (sV 0) (sOp subD (sOp addD (sV 2) (sV 3)) (sCall F_common (sCons (sV 2) (sCons (sV 3) sNil))))))
 sCnt
 sNext)))
 sNext)
section
variable {P : Program} {w : World} {K : PySem.W.Frag} {mg : Str → Option Value} {base : Heap}
/-- lengths that are not long enough -/
def ShortD : List D → Prop := condR 2 2 SR_need_long
theorem okR_need_long (T : TX K mg) (U : TE K mg) : FnOk P w K mg base (L2N.CX P w) 2 T.f_need_long T.d_need_long ["places", "told"] (spR K U.S ShortD) := by
  refine okR (k := 1) (ps := ["places", "told"]) (n := 2) (g := SR_need_long) T.F_need_long sc_need_long rfl fun cdv A outer s H E hr => ⟨_, _, (pss_one (ps_if (pt_cmpR op_gt (pe_callB (call_lenK (K := K) rfl) (by rfl) T.b_len (by decide +kernel) (pa_cons (pv 1) pa_nil)) pe_int (nomark _)) (pss_cons (ps_par (i := 2) (j := 3) (by rfl) sc_need_long.nd rfl rfl (by decide) rfl rfl (pa_cons (pe_ix (ix_K (K := K) rfl) (pe_ix (ix_K (K := K) rfl) (pv 1) (pe_un un_neg pe_int) (fun _ _ => rfl)) pe_int (fun _ _ => rfl)) (pa_cons (pe_ix (ix_K (K := K) rfl) (pe_ix (ix_K (K := K) rfl) (pv 1) (pe_un un_neg pe_int) (fun _ _ => rfl)) pe_int (fun _ _ => rfl)) pa_nil)) (by rfl))
 (pss_one (ps_if (pt_cmpR op_lt (pv 0) (pe_op op_sub (pe_op (op_addK (K := K) rfl) (pv 2) (pv 3)) (pe_call (ok_common T) (hr.mono (by decide)) (by rfl) T.g_common T.F_common.kp (b_common T) .nil pass0 (pa_cons (pv 2) (pa_cons (pv 3) pa_nil)))) (nomark _)) (pss_one (ps_raise_z U.sh (by rfl))) pss_nil))) pss_nil)), (imp_if (imp_test (imp_op d_gt (imp_cb d_len (imp_cons (imp_v 1) imp_nil)) imp_int))
 (imp_then [2, 3] (imp_seq (imp_many2 (imp_avP (imp_op d_ix (imp_op d_ix (imp_v 1) (imp_un d_neg imp_int)) imp_int) (imp_avP (imp_op d_ix (imp_op d_ix (imp_v 1) (imp_un d_neg imp_int)) imp_int) imp_avNil)))
 (imp_if (imp_test (imp_op d_lt (imp_v 0) (imp_op d_sub (imp_op d_add (imp_v 2) (imp_v 3)) (imp_call (F := F_common) (imp_cons (imp_v 2) (imp_cons (imp_v 3) imp_nil))))))
 imp_cnt
 imp_next)))
 imp_next), rz_shape _ _ _ _ _ _ _⟩
theorem okR_as_one (T : TX K mg) (U : TE K mg) : FnOk P w K mg base (L2N.CX P w) 3 T.f_as_one T.d_as_one ["places", "told"] (spR K U.S ShortD) := by
  refine okR1 (k := 2) (ps := ["places", "told"]) (n := 8) T.F_as_one sc_as_one rfl (fun cdv A outer s H E hr => ⟨_, _, pss_cons (ps_expr (pe_callS (okR_need_long T U) (hr.mono (by decide)) (by rfl) T.g_need_long T.F_need_long.kp (b_need_long T) (fun σ => L2N.passAt (L2N.takes_of rfl rfl rfl rfl) σ) (pa_cons (pv 0) (pa_cons (pv 1) pa_nil)))) pss_never, imp_cons (imp_v 0) (imp_cons (imp_v 1) imp_nil), fun ds h => ?_⟩) fun ds h => h.1
  obtain ⟨h, _⟩ := h
  match ds, h with
  | [a, b], _ => rfl
theorem okR_weights (T : TX K mg) (U : TE K mg) : FnOk P w K mg base (L2N.CX P w) 3 T.f_weights T.d_weights ["places", "told"] (spR K U.S ShortD) := by
  refine okR1 (k := 2) (ps := ["places", "told"]) (n := 10) T.F_weights sc_weights rfl (fun cdv A outer s H E hr => ⟨_, _, pss_cons (ps_expr (pe_callS (okR_need_long T U) (hr.mono (by decide)) (by rfl) T.g_need_long T.F_need_long.kp (b_need_long T) (fun σ => L2N.passAt (L2N.takes_of rfl rfl rfl rfl) σ) (pa_cons (pv 0) (pa_cons (pv 1) pa_nil)))) pss_never, imp_cons (imp_v 0) (imp_cons (imp_v 1) imp_nil), fun ds h => ?_⟩) fun ds h => h.1
  obtain ⟨h, _⟩ := h
  match ds, h with
  | [a, b], _ => rfl
end
end X
namespace X
open PySem PySem.Spec PyProof.Rows L2 DL EX L2H LamX
/-- a lambda that always lets an S out: told is d -/
abbrev TTz (K : PySem.W.Frag) (S : Addr) (d : D) : (XK → Hp → VK → Prop) → Hp → VK → Prop := TTr K S d
theorem takes0N {X : Cx} : L2N.Takes X (fun _ _ _ _ => False) := fun _ _ x => by
  obtain ⟨_, _, _, _, _, _, _, _, _, _, _, _, _, _, _, _, z⟩ := x
  exact z.elim
theorem told_givesN {X : Cx} (T : TX X.K X.mg) (U : TE X.K X.mg) {g : Addr} {cdg : Value} : GivesN X N_l_told "_law_told" (defScope s_l_told) g cdg (defBody s_l_told) "deed" (TTz X.K U.S (.tuple [.str "NowError Short +"])) := by
  intro f c' s H Q tl hr act hco h
  refine ⟨_, pss_cons (ps_set (i := 1) sc_l_told.nd rfl (Or.inl rfl) pe_non) (pss_cons (L2N.ps_try_as (i := 2) (c := .ref U.F) (Wout := fun _ _ _ _ => False)
    (tb := fun W D σ H => ∃ Ech : XK, σ[0]? = some (some (.ref f)) ∧ H c' = some (CodeO c' (qL X)) ∧ (∀ cls d H', Ech cls d H' → W cls d σ H') ∧ ∀ Nd : VK, tl Ech H Nd)
    (ts := fun a cls d D σ H => (cls = .ref U.S ∧ d = none) ∧ tAsg (tE a 2 (spE X.K (.tuple [.str "NowError Short +"]))) (gName 1) D σ H)
    rfl rfl sc_l_told.nd rfl rfl ⟨rfl, by decide, .inl U.sh.fg⟩ takes0N (fun W pn xe tk _ => ?_) (fun a oe cls d pn hz hf => ?_)) (pss_one (ps_ret (pv 1)))), ?_⟩
  · refine ⟨fun pins s' σ H' D I ⟨Ech, h1, h2, h3, h4⟩ => ?_⟩
    exact (pss_one (ps_set (i := 1) sc_l_told.nd rfl (Or.inl rfl) (pe_tup (pa_cons pe_str (pa_cons (act W pn xe Ech _ _ tk) pa_nil))))).run pins s' σ H' D I ⟨h1, h2, h3, h4 _⟩
  · refine ⟨fun pins s' σ H' D I ⟨⟨e1, e2⟩, h⟩ => ?_⟩
    subst e1 e2
    obtain ⟨vs, hv⟩ := hf
    have hr3 := roomH_of (hr.mono (show 3 ≤ 4 by decide))
    exact (pss_one (ps_set (i := 1) sc_l_told.nd rfl (Or.inl rfl) (pe_callE (X := (cxOf CX0 X.prog X.w X.K X.mg X.base N_l_told "_law_told" (defScope s_l_told) g cdg X.A X.stack s H E0).nox.suite a ((a, oe) :: pn)) (q := (a, oe)) (i := 2) (ok_l_refusal T U) ⟨hr3.dp, hr3.un⟩ List.mem_cons_self ⟨rfl, vs, hv, hz.2.2 vs hv⟩ ⟨hz, vs, hv⟩ (by rfl) T.g_l_refusal T.F_l_refusal.kp (b_l_refusal T) (pv 2)))).run pins s' σ H' D I h
  · refine ⟨fun cls dd H' => cls = .ref U.S ∧ dd = none ∧ spE X.K (.tuple [.str "NowError Short +"]) H' Q, rfl, hco, fun cls d H' ⟨e1, e2, B, sB, hQ⟩ => ?_, fun Nd => h _ Nd fun _ _ _ z => z⟩
    subst e1 e2
    exact ⟨true, U.sh.fx, fun _ a na => ⟨⟨rfl, rfl⟩, rfl, B, sB, fun v B' H2 g dv => ⟨v, rfl, hQ v B' H2 g dv⟩⟩, fun z => nomatch z⟩
end X
namespace X
open PySem PySem.Spec PyProof.Rows L2 DL EX LamX
def S_lawW : SS := (sSeqW (sAsg (sOp addD (sC (.int 1)) (sCallD F_l_draw 2 (sCons (sC (.int 24)) sNil))) (qN 3))
 (sSeqW (sMany [4, 5] (sAvP (sCallD F_l_lengths 2 (sCons (sV 3) sNil)) (sAvP (sCallD F_l_signed 2 (sCons (sV 3) sNil)) sAvNil)))
 (sSeqW (sMany [6, 7] (sAvP (sCB tupleD (sCons (sOfL (sLc (sItL (sV 4)) (qN 8) sYes (sTup (sCons (sV 8) (sCons (sCall F_l_counts (sCons (sV 5) (sCons (sV 8) sNil))) sNil))) [8])) sNil)) (sAvP (sC (.int 0)) sAvNil)))
 (sSeqW (sFor (sItL (sV 4)) (qN 8)
 (sThen [8] (sAsg (sCall F_l_common (sCons (sV 8) (sCons (sV 7) sNil))) (qN 7))))
 (sSeqW (sIfS (sOr (sB (sOp neD (sCall F_as_one (sCons (sV 3) (sCons (sV 6) sNil))) (sTup (sCons (sV 7) (sCons (sCall F_l_counts (sCons (sV 5) (sCons (sV 7) sNil))) sNil))))) (sB (sOp notND (sCallK F_weights (kgo 0 2 [1, 0]) sNil (sCons (sV 6) (sCons (sV 3) sNil))) (sC .none))))
 (sRet (sC (.bool false)))
 sNext)
 (sSeqW (sAsg (sCallD F_l_moved 2 (sCons (sV 5) (sCons (sV 7) sNil))) (qN 9))
 (sSeqW (sIfS (sB (sOp neD (sCB tupleD (sCons (sOfL (sLc (sItL (sV 4)) (qN 8) sYes (sTup (sCons (sV 8) (sCons (sCall F_l_counts (sCons (sV 9) (sCons (sV 8) sNil))) sNil))) [8])) sNil)) (sV 6)))
 (sRet (sC (.bool false)))
 sNext)
 (sSeqW (sAsg (sCallD F_l_bent 2 (sCons (sV 6) sNil)) (qN 10))
 (sSeqW (sFor (sItL (sLst (sCons (sV 6) (sCons (sV 10) (sCons (sCallD F_l_bent 2 (sCons (sV 10) sNil)) sNil))))) (qN 11)
 (sThen [11] (sIfS (sNot (sB (sCall F_l_told_so (sCons (sV 3) (sCons (sV 11) sNil)))))
 (sRet (sC (.bool false)))
 sNext)))
 (sIfS (sB (sOp gtD (sV 3) (sC (.int 3)))) (sSeqW (sMany [12, 13] (sAvP (sV 3) (sAvP (sOp subD (sOp subD (sV 3) (sC (.int 1))) (sCallD F_l_draw 2 (sCons (sOp subD (sV 3) (sC (.int 2))) sNil))) sAvNil)))
 (sIfS (sB (sOp ltD (sV 3) (sOp subD (sOp addD (sV 12) (sV 13)) (sCall F_l_common (sCons (sV 12) (sCons (sV 13) sNil)))))) (sSeqW (sAsg (sTup (sCons (sTup (sCons (sV 13) (sCons (sCall F_l_counts (sCons (sV 5) (sCons (sV 13) sNil))) sNil))) (sCons (sTup (sCons (sV 12) (sCons (sCall F_l_counts (sCons (sV 5) (sCons (sV 12) sNil))) sNil))) sNil))) (qN 14)) sCnt) sNext)) sNext))))))))))
end X
namespace X
open PySem PySem.Spec L2 DL DM EX
section
variable {P : Nat} {ts : List TF} {ls row : List Int}
theorem pln_tf {t : TF} : Pln 2 (tfD t) := .tuple fun d hd => by
  simp only [List.mem_cons, List.not_mem_nil, or_false] at hd
  rcases hd with rfl | rfl
  · exact pln_int
  · exact pln_tup
theorem pln_ts : Pln 3 (tsD ts) := .tuple fun d hd => by
  obtain ⟨t, _, rfl⟩ := List.mem_map.mp hd
  exact pln_tf
theorem ne_self {n : Nat} {d : D} (h : Pln n d) (hn : n ≤ 64) : neD d d = some (.bool false) := neD_b (n := n) (b := true) h h hn (by simp)
/-- two lengths that are not long enough -/
theorem short_of {u v : TF} (hv : v.1 ≤ 1000) (h : P + Nat.gcd u.1 v.1 < u.1 + v.1) : ShortD [.int (P : Int), tsD [u, v]] := by
  have eg : F_common [.int (u.1 : Int), .int (v.1 : Int)] = some (.int (Int.gcd u.1 v.1 : Nat)) := F_common_eq (by omega)
  have eg' : Int.gcd (u.1 : Int) (v.1 : Int) = Nat.gcd u.1 v.1 := rfl
  refine ⟨rfl, [.im (.int (P : Int)), .im (tsD [u, v]), .un, .un], (0, 0), ?_⟩
  show SR_need_long [.im (.int (P : Int)), .im (tsD [u, v]), .un, .un] (0, 0) = _
  unfold SR_need_long
  refine DL.ifT (c1 := (0, 0)) (by simp [tsD]) ?_
  have a2 : atI [PyData.tuple [.int (u.1 : Int), .tuple (iL u.2)], .tuple [.int (v.1 : Int), .tuple (iL v.2)]] (-2) = some (.tuple [.int (u.1 : Int), .tuple (iL u.2)]) := rfl
  have a1 : atI [PyData.tuple [.int (u.1 : Int), .tuple (iL u.2)], .tuple [.int (v.1 : Int), .tuple (iL v.2)]] (-1) = some (.tuple [.int (v.1 : Int), .tuple (iL v.2)]) := rfl
  have z2 : atI [PyData.int (u.1 : Int), .tuple (iL u.2)] 0 = some (.int (u.1 : Int)) := rfl
  have z1 : atI [PyData.int (v.1 : Int), .tuple (iL v.2)] 0 = some (.int (v.1 : Int)) := rfl
  have hs : sSeq (sMany [2, 3] (sAvP (sOp ixD (sOp ixD (sV 1) (sUn negD (sC (.int 2)))) (sC (.int 0))) (sAvP (sOp ixD (sOp ixD (sV 1) (sUn negD (sC (.int 1)))) (sC (.int 0))) sAvNil)))
      (sIfS (sB (sOp ltD (sV 0) (sOp subD (sOp addD (sV 2) (sV 3)) (sCall F_common (sCons (sV 2) (sCons (sV 3) sNil))))))
      sCnt
      sNext) [.im (.int (P : Int)), .im (tsD [u, v]), .un, .un] (0, 0) = some (.ct, [.im (.int (P : Int)), .im (tsD [u, v]), .im (.int (u.1 : Int)), .im (.int (v.1 : Int))], (0, 0)) := by
    refine seq_run (ρ1 := [.im (.int (P : Int)), .im (tsD [u, v]), .im (.int (u.1 : Int)), .im (.int (v.1 : Int))]) (c1 := (0, 0)) ?_ ?_
    · simp only [ev_sMany, ev_sAvP, ev_sAvNil, ev_sOp, ev_sV, ev_sUn, ev_sC, List.getElem?_cons_succ, List.getElem?_cons_zero, Option.bind_some, ev_negI, tsD, List.map_cons, List.map_nil, ev_ixT, a2, a1, tfD, z2, z1, List.length_cons, List.length_nil, if_true, ev_setAv, ev_setAv0, ev_slP, List.set_cons_succ, List.set_cons_zero]
    · have hn : (P : Int) < (u.1 : Int) + v.1 - (Int.gcd u.1 v.1 : Nat) := by rw [eg']; omega
      refine DL.ifT (c1 := (0, 0)) ?_ rfl
      simp only [ev_sB, ev_sOp, ev_sV, ev_sCall, ev_sCons, ev_sNil, List.getElem?_cons_succ, List.getElem?_cons_zero, Option.bind_some, eg, ev_addII, ev_subII, ev_cmpII, decide_eq_true hn]
  unfold sThen
  rw [hs]
  rfl
/-- the greatest common divisor of the first i lengths -/
def gF (ls : List Int) (i : Nat) : Nat := ((ls.take i).map Int.toNat).foldl Nat.gcd 0
theorem gF_step {i : Nat} {l : Int} (h : ls[i]? = some l) : gF ls (i + 1) = Nat.gcd (gF ls i) l.toNat := by
  unfold gF
  have e : ls.take (i + 1) = ls.take i ++ [l] := by
    rw [List.take_add_one, h]; rfl
  rw [e, List.map_append, List.foldl_append]
  rfl
theorem gF_all : gF ls ls.length = gcdL ((ls.map (tfOf row)).map (·.1)) := by
  unfold gF gcdL
  rw [List.take_length, List.map_map]
  rfl
theorem by_run {v : V} {k : Int} {c : Dr} {s3 s5 s6 s7 : Sl} (hl : ∀ l ∈ ls, 1 ≤ l ∧ l ≤ 24) (h7 : s7 = .im (.int 0)) :
    sFor (sItL (sV 4)) (qN 8) (sThen [8] (sAsg (sCall F_l_common (sCons (sV 8) (sCons (sV 7) sNil))) (qN 7))) [.op v, .im (.int k), .dr, s3, .im (.list (iL ls)), s5, s6, s7, .un, .un, .un, .un, .un, .un, .un] c =
      some (.nx, [.op v, .im (.int k), .dr, s3, .im (.list (iL ls)), s5, s6, .im (.int (gF ls ls.length : Nat)), .un, .un, .un, .un, .un, .un, .un], c) := by
  subst h7
  have := for_run (c := c) (c1 := c) (fi := sItL (sV 4)) (tg := qN 8) (body := sThen [8] (sAsg (sCall F_l_common (sCons (sV 8) (sCons (sV 7) sNil))) (qN 7))) (ρ := [.op v, .im (.int k), .dr, s3, .im (.list (iL ls)), s5, s6, .im (.int 0), .un, .un, .un, .un, .un, .un, .un]) (xs := iL ls)
    (fun i => [.op v, .im (.int k), .dr, s3, .im (.list (iL ls)), s5, s6, .im (.int (gF ls i : Nat)), .un, .un, .un, .un, .un, .un, .un]) (by simp) rfl (fun i x hx => by
      rw [iL_get] at hx
      obtain ⟨l, h1, rfl⟩ := Option.map_eq_some_iff.mp hx
      obtain ⟨a, b⟩ := hl l (List.mem_of_getElem? h1)
      have gle : gF ls i ≤ 1000 := by
        cases i with
        | zero => exact Nat.zero_le _
        | succ j =>
          obtain ⟨l', hl'⟩ : ∃ l', ls[j]? = some l' := by
            have := (List.getElem?_eq_some_iff.mp h1).1
            exact ⟨_, List.getElem?_eq_getElem (by omega)⟩
          rw [gF_step hl']
          have hb := hl l' (List.mem_of_getElem? hl')
          exact Nat.le_trans (Nat.le_of_dvd (by omega) (Nat.gcd_dvd_right _ _)) (by omega)
      have e := F_l_common_eq (a := l) (b := (gF ls i : Nat)) (by omega)
      have e2 : Int.gcd l (gF ls i : Nat) = gF ls (i + 1) := by
        rw [gF_step h1, Nat.gcd_comm]
        show Nat.gcd l.natAbs _ = _
        rw [show l.natAbs = l.toNat by omega]
        rfl
      rw [e2] at e
      refine ⟨_, rfl, then_run (ρ1 := [.op v, .im (.int k), .dr, s3, .im (.list (iL ls)), s5, s6, .im (.int (gF ls (i + 1) : Nat)), .im (.int l), .un, .un, .un, .un, .un, .un]) ?_ rfl⟩
      simp only [ev_sAsg, ev_sCall, ev_sCons, ev_sNil, ev_sV, List.set_cons_succ, List.set_cons_zero, List.getElem?_cons_succ, List.getElem?_cons_zero, Option.bind_some, e, ev_qN])
  rw [iL_len] at this
  exact this
/-- the told frames of a row -/
theorem told_run {v : V} {k : Int} {c : Dr} {i5 : Nat} {ρ0 : Rho} {r : List Int} (h5 : ρ0.length = 15) (h8 : ∀ d, (ρ0.set 8 d)[i5]? = some (.im (.tuple (iL r)))) (hr : r.length ≤ 1000) (hl : ∀ l ∈ ls, 1 ≤ l ∧ l ≤ (r.length : Int)) :
    lcS (qN 8) sYes (sTup (sCons (sV 8) (sCons (sCall F_l_counts (sCons (sV i5) (sCons (sV 8) sNil))) sNil))) ρ0 (iL ls) c = some ((ls.map (tfOf r)).map tfD, c) := by
  have f2 : few 2 = true := by decide
  have l1 := lcS_map (tg := qN 8) (e := sTup (sCons (sV 8) (sCons (sCall F_l_counts (sCons (sV i5) (sCons (sV 8) sNil))) sNil))) (ρ0 := ρ0) (xs := iL ls) (c := c) (fun d => match d with | .int l => tfD (tfOf r l) | d => d) (fun x hx => by
    obtain ⟨l, hm, rfl⟩ := List.mem_map.mp hx
    obtain ⟨a, b⟩ := hl l hm
    have e := F_l_counts_eq (f := l.toNat) (row := r) (by omega) (by omega) hr
    rw [show ((l.toNat : Nat) : Int) = l by omega] at e
    refine ⟨_, rfl, ?_⟩
    show _ = some (PyData.tuple [.int ((l.toNat : Nat) : Int), .tuple (iL (csL l.toNat r))], c)
    rw [show ((l.toNat : Nat) : Int) = l by omega]
    have g8 : (ρ0.set 8 (.im (.int l)))[8]? = some (.im (.int l)) := List.getElem?_set_self (by omega)
    simp only [ev_sTup, ev_sCons, ev_sNil, ev_sV, ev_sCall, h8, g8, Option.bind_some, e, List.length_cons, List.length_nil, Nat.zero_add, f2, if_true])
  rw [l1]
  unfold iL
  rw [List.map_map, List.map_map]
  rfl
end
end X
namespace X
open PySem PySem.Spec L2 DL DM EX
theorem seqW_run {f g : SS} {ρ ρ1 : Rho} {c c1 : Dr} {Q : Fl × Rho × Dr → Prop} (h : f ρ c = some (.nx, ρ1, c1)) (h2 : ∃ r, g ρ1 c1 = some r ∧ Q r) : ∃ r, sSeqW f g ρ c = some r ∧ Q r := by
  obtain ⟨r, e, q⟩ := h2
  exact ⟨r, by unfold sSeqW; rw [h]; exact e, q⟩
theorem seqW_end {f g : SS} {ρ ρ1 : Rho} {c c1 : Dr} {r : Fl × Rho × Dr} (h : f ρ c = some (.nx, ρ1, c1)) (h2 : g ρ1 c1 = some r) : sSeqW f g ρ c = some r := by unfold sSeqW; rw [h]; exact h2
/-- the last statements up to the lambdas -/
theorem last_run {P : Nat} {row : List Int} {v : V} {k : Int} {c : Dr} {s4 s6 s7 s9 s10 : Sl} (hP1 : 1 ≤ P) (hP : P ≤ 24) (hr : row.length = P) (hc : OkDr c) :
    ∃ r, (sIfS (sB (sOp gtD (sV 3) (sC (.int 3)))) (sSeqW (sMany [12, 13] (sAvP (sV 3) (sAvP (sOp subD (sOp subD (sV 3) (sC (.int 1))) (sCallD F_l_draw 2 (sCons (sOp subD (sV 3) (sC (.int 2))) sNil))) sAvNil)))
      (sIfS (sB (sOp ltD (sV 3) (sOp subD (sOp addD (sV 12) (sV 13)) (sCall F_l_common (sCons (sV 12) (sCons (sV 13) sNil)))))) (sSeqW (sAsg (sTup (sCons (sTup (sCons (sV 13) (sCons (sCall F_l_counts (sCons (sV 5) (sCons (sV 13) sNil))) sNil))) (sCons (sTup (sCons (sV 12) (sCons (sCall F_l_counts (sCons (sV 5) (sCons (sV 12) sNil))) sNil))) sNil))) (qN 14)) sCnt) sNext)) sNext)
      [.op v, .im (.int k), .dr, .im (.int (P : Int)), s4, .im (.tuple (iL row)), s6, s7, .un, s9, s10, .un, .un, .un, .un] c = some r ∧ EndOk v 12 3 14 ShortD r := by
  by_cases h3 : 3 < P
  · obtain ⟨_, c1, e1, r, rfl, r0, r1, ok1⟩ := F_l_draw_eq (m := (P : Int) - 2) (by omega) (by omega) hc
    obtain ⟨q, hq⟩ : ∃ q : Nat, (P : Int) - 1 - r = (q : Int) := ⟨((P : Int) - 1 - r).toNat, by omega⟩
    have s1 : sMany [12, 13] (sAvP (sV 3) (sAvP (sOp subD (sOp subD (sV 3) (sC (.int 1))) (sCallD F_l_draw 2 (sCons (sOp subD (sV 3) (sC (.int 2))) sNil))) sAvNil)) [.op v, .im (.int k), .dr, .im (.int (P : Int)), s4, .im (.tuple (iL row)), s6, s7, .un, s9, s10, .un, .un, .un, .un] c =
        some (.nx, [.op v, .im (.int k), .dr, .im (.int (P : Int)), s4, .im (.tuple (iL row)), s6, s7, .un, s9, s10, .un, .im (.int (P : Int)), .im (.int (q : Int)), .un], c1) := by
      simp only [ev_sMany, ev_sAvP, ev_sAvNil, ev_sOp, ev_sV, ev_sC, ev_sCallD, ev_sCons, ev_sNil, List.getElem?_cons_succ, List.getElem?_cons_zero, Option.bind_some, ev_subII, e1, hq, List.length_cons, List.length_nil, if_true, ev_setAv, ev_setAv0, ev_slP, List.set_cons_succ, List.set_cons_zero]
    have h3' : sB (sOp gtD (sV 3) (sC (.int 3))) [.op v, .im (.int k), .dr, .im (.int (P : Int)), s4, .im (.tuple (iL row)), s6, s7, .un, s9, s10, .un, .un, .un, .un] c = some (true, c) := by
      have : (3 : Int) < (P : Int) := by omega
      simp [this]
    have eg := F_l_common_eq (a := (P : Int)) (b := (q : Int)) (by omega)
    have eg' : Int.gcd (P : Int) (q : Int) = Nat.gcd P q := rfl
    have t2 : sB (sOp ltD (sV 3) (sOp subD (sOp addD (sV 12) (sV 13)) (sCall F_l_common (sCons (sV 12) (sCons (sV 13) sNil))))) [.op v, .im (.int k), .dr, .im (.int (P : Int)), s4, .im (.tuple (iL row)), s6, s7, .un, s9, s10, .un, .im (.int (P : Int)), .im (.int (q : Int)), .un] c1 = some (decide ((P : Int) < (P : Int) + (q : Int) - (Nat.gcd P q : Nat)), c1) := by
      rw [eg'] at eg
      simp only [ev_sB, ev_sOp, ev_sV, ev_sCall, ev_sCons, ev_sNil, List.getElem?_cons_succ, List.getElem?_cons_zero, Option.bind_some, eg, ev_addII, ev_subII, ev_cmpII]
    by_cases hs : (P : Int) < (P : Int) + (q : Int) - (Nat.gcd P q : Nat)
    · rw [decide_eq_true hs] at t2
      have ea := F_l_counts_eq (f := q) (row := row) (by omega) (by omega) (by omega)
      have eb := F_l_counts_eq (f := P) (row := row) (by omega) (by omega) (by omega)
      have f2 : few 2 = true := by decide
      refine ⟨_, DL.ifT h3' (seqW_end s1 (DL.ifT t2 (seqW_end (ρ1 := [.op v, .im (.int k), .dr, .im (.int (P : Int)), s4, .im (.tuple (iL row)), s6, s7, .un, s9, s10, .un, .im (.int (P : Int)), .im (.int (q : Int)), .im (tsD [(q, csL q row), (P, csL P row)])]) (c1 := c1) ?_ rfl))), ⟨rfl, rfl⟩, .int (P : Int), tsD [(q, csL q row), (P, csL P row)], rfl, rfl, short_of (by show P ≤ 1000; omega) (by show P + Nat.gcd q P < q + P; rw [Nat.gcd_comm]; omega)⟩
      simp only [ev_sAsg, ev_sTup, ev_sCons, ev_sNil, ev_sV, ev_sCall, List.getElem?_cons_succ, List.getElem?_cons_zero, Option.bind_some, ea, eb, List.length_cons, List.length_nil, Nat.zero_add, f2, if_true, ev_qN, List.set_cons_succ, List.set_cons_zero]
      rfl
    · rw [decide_eq_false hs] at t2
      exact ⟨_, DL.ifT h3' (seqW_end s1 (DL.ifF t2 rfl)), rfl, rfl⟩
  · have h3' : sB (sOp gtD (sV 3) (sC (.int 3))) [.op v, .im (.int k), .dr, .im (.int (P : Int)), s4, .im (.tuple (iL row)), s6, s7, .un, s9, s10, .un, .un, .un, .un] c = some (false, c) := by
      have : ¬ (3 : Int) < (P : Int) := by omega
      simp [this]
    exact ⟨_, DL.ifF h3' rfl, rfl, rfl⟩
theorem lawW : ∀ (ns : List Int) (z : Nat), ns.length ≤ 63 → z < 1000 → ∃ c, cellF ns z = some c ∧ ∀ v, ∃ r, S_lawW (rhoL v z 12) c = some r ∧ EndOk v 12 3 14 ShortD r := by
  intro ns i0 hns hi0
  obtain ⟨c, ec, ok⟩ := cellF_ok hns hi0
  refine ⟨c, ec, fun v => ?_⟩
  generalize ((i0 : Nat) : Int) = k
  obtain ⟨_, c1, e1, r1, rfl, r10, r11, ok1⟩ := F_l_draw_eq (m := 24) (by decide) (by decide) ok
  obtain ⟨P, hP⟩ : ∃ P : Nat, 1 + r1 = (P : Int) := ⟨(1 + r1).toNat, by omega⟩
  have hP1 : 1 ≤ P := by omega
  have hP24 : P ≤ 24 := by omega
  obtain ⟨_, c2, e2, ⟨ls, rfl, n1, n3, hls, hLg, hpw⟩, ok2⟩ := F_l_lengths_eq hP1 hP24 ok1
  obtain ⟨_, c3, e3, ⟨row, rfl, hrow, hrb⟩, ok3⟩ := F_l_signed_eq hP24 ok2
  have hTB := tb_of hP24 n1 n3 hls hrow hrb
  have hLL := long_of (row := row) n1 n3 hls hLg hpw
  obtain ⟨ea, ew⟩ := one_row hP24 n1 n3 hls hLg hpw hrow hrb
  have hgF : gF ls ls.length = gcdL ((ls.map (tfOf row)).map (·.1)) := gF_all
  have hgp := gcdL_pos hLL
  have hdv : ∀ l ∈ ls, gcdL ((ls.map (tfOf row)).map (·.1)) ∣ l.toNat := fun l hl => gcdL_dvd (List.mem_map.mpr ⟨_, List.mem_map.mpr ⟨l, hl, rfl⟩, rfl⟩)
  obtain ⟨l0, hl0⟩ := List.exists_mem_of_ne_nil ls (fun e => by rw [e] at n1; simp at n1)
  have hgP : gcdL ((ls.map (tfOf row)).map (·.1)) ≤ P := Nat.le_trans (Nat.le_of_dvd (by have := hls l0 hl0; omega) (hdv l0 hl0)) (by have := hls l0 hl0; omega)
  generalize gcdL ((ls.map (tfOf row)).map (·.1)) = g at *
  obtain ⟨row', c4, e4, ok4, hl4, δ, hδ0, hδ⟩ := F_l_moved_eq (g := g) (row := row) (by omega) hgp (by omega) ok3
  have hmov : ls.map (tfOf row') = ls.map (tfOf row) := List.map_congr_left fun l hl => by
    unfold tfOf
    rw [moved_same hgp (hdv l hl) hl4 (by have := hls l hl; omega) hδ0 hδ]
  obtain ⟨bs, c5, e5, ok5, hBB, hbf⟩ := F_l_bent_eq hTB hP24 (by decide) ok4
  obtain ⟨ds, c6, e6, ok6, hDB, hdf⟩ := F_l_bent_eq hBB hP24 (by decide) ok5
  have sof : ∀ {us : List TF}, TB P us 24300 → us.map (·.1) = (ls.map (tfOf row)).map (·.1) → F_l_told_so [.int (P : Int), tsD us] = some (.bool true) := fun {us} h e => by
    have hL' : LongL P (us.map (·.1)) := by rw [e]; exact hLL
    exact F_l_told_so_eq (h.tok hP24 (by decide)) (lg_of hL') hL'
  have up : ∀ {us : List TF} {B : Int}, TB P us B → B ≤ 24300 → TB P us 24300 := fun h hB => ⟨h.n1, h.n3, fun t ht => by
    obtain ⟨a, b, d, e⟩ := h.f t ht
    exact ⟨a, b, d, fun x hx => by have := e x hx; omega⟩⟩
  have so1 := sof (up hTB (by decide)) rfl
  have so2 := sof (up hBB (by decide)) hbf
  have so3 := sof (up hDB (by decide)) (hdf.trans hbf)
  have ecg := F_l_counts_eq (f := g) (row := row) hgp (by omega) (by omega)
  have f2 : few 2 = true := by decide
  have f3 : few 3 = true := by decide
  have fl : few (iL ls).length = true := few_of (by rw [iL_len]; omega)
  unfold S_lawW rhoL
  refine seqW_run (ρ1 := [.op v, .im (.int k), .dr, .im (.int (P : Int)), .un, .un, .un, .un, .un, .un, .un, .un, .un, .un, .un]) (c1 := c1) (by simp [e1, hP]) ?_
  refine seqW_run (ρ1 := [.op v, .im (.int k), .dr, .im (.int (P : Int)), .im (.list (iL ls)), .im (.tuple (iL row)), .un, .un, .un, .un, .un, .un, .un, .un, .un]) (c1 := c3) (by
    simp only [ev_sMany, ev_sAvP, ev_sAvNil, ev_sCallD, ev_sCons, ev_sNil, ev_sV, List.getElem?_cons_succ, List.getElem?_cons_zero, Option.bind_some, e2, e3, List.length_cons, List.length_nil, if_true, ev_setAv, ev_setAv0, ev_slP, List.set_cons_succ, List.set_cons_zero]) ?_
  refine seqW_run (ρ1 := [.op v, .im (.int k), .dr, .im (.int (P : Int)), .im (.list (iL ls)), .im (.tuple (iL row)), .im (tsD (ls.map (tfOf row))), .im (.int 0), .un, .un, .un, .un, .un, .un, .un]) (c1 := c3) (by
    have l1 := told_run (ls := ls) (v := v) (k := k) (c := c3) (i5 := 5) (ρ0 := [.op v, .im (.int k), .dr, .im (.int (P : Int)), .im (.list (iL ls)), .im (.tuple (iL row)), .un, .un, .un, .un, .un, .un, .un, .un, .un]) (r := row) rfl (fun d => rfl) (by omega) (by rw [hrow]; exact hls)
    simp only [ev_sMany, ev_sAvP, ev_sAvNil, ev_sCB, ev_sCons, ev_sNil, ev_sOfL, ev_sLc, ev_sItL, ev_sV, ev_sC, List.getElem?_cons_succ, List.getElem?_cons_zero, Option.bind_some, fl, if_true, ev_wipe0, ev_wipe1, List.set_cons_succ, List.set_cons_zero, l1, ev_tupL, List.length_cons, List.length_nil, ev_setAv, ev_setAv0, ev_slP]
    rfl) ?_
  have eby := by_run (ls := ls) (v := v) (k := k) (c := c3) (s3 := .im (.int (P : Int))) (s5 := .im (.tuple (iL row))) (s6 := .im (tsD (ls.map (tfOf row)))) (s7 := .im (.int 0)) (fun l hl => by have := hls l hl; omega) rfl
  rw [hgF] at eby
  refine seqW_run eby ?_
  refine seqW_run (ρ1 := [.op v, .im (.int k), .dr, .im (.int (P : Int)), .im (.list (iL ls)), .im (.tuple (iL row)), .im (tsD (ls.map (tfOf row))), .im (.int (g : Nat)), .un, .un, .un, .un, .un, .un, .un]) (c1 := c3) (DL.ifF (c1 := c3) (by
    have en : neD (.tuple [.int (g : Int), .tuple (iL (csL g row))]) (.tuple [.int (g : Int), .tuple (iL (csL g row))]) = some (.bool false) := ne_self (n := 2) (pln_tf (t := (g, csL g row))) (by decide)
    have e0 : notND (.none : D) .none = some (.bool false) := rfl
    have ek : kgo 0 2 [1, 0] [] [tsD (ls.map (tfOf row)), PyData.int (P : Int)] = [.int (P : Int), tsD (ls.map (tfOf row))] := rfl
    simp only [ev_sOr, ev_sB, ev_sOp, ev_sCall, ev_sCallK, ev_sCons, ev_sNil, ev_sTup, ev_sV, ev_sC, List.getElem?_cons_succ, List.getElem?_cons_zero, Option.bind_some, ea, ecg, List.length_cons, List.length_nil, Nat.zero_add, f2, if_true, en, Bool.false_eq_true, if_false, ek, ew, e0]) rfl) ?_
  refine seqW_run (ρ1 := [.op v, .im (.int k), .dr, .im (.int (P : Int)), .im (.list (iL ls)), .im (.tuple (iL row)), .im (tsD (ls.map (tfOf row))), .im (.int (g : Nat)), .un, .im (.tuple (iL row')), .un, .un, .un, .un, .un]) (c1 := c4) (by
    simp only [ev_sAsg, ev_sCallD, ev_sCons, ev_sNil, ev_sV, List.getElem?_cons_succ, List.getElem?_cons_zero, Option.bind_some, e4, ev_qN, List.set_cons_succ, List.set_cons_zero]) ?_
  refine seqW_run (ρ1 := [.op v, .im (.int k), .dr, .im (.int (P : Int)), .im (.list (iL ls)), .im (.tuple (iL row)), .im (tsD (ls.map (tfOf row))), .im (.int (g : Nat)), .un, .im (.tuple (iL row')), .un, .un, .un, .un, .un]) (c1 := c4) (DL.ifF (c1 := c4) (by
    have l1 := told_run (ls := ls) (v := v) (k := k) (c := c4) (i5 := 9) (ρ0 := [.op v, .im (.int k), .dr, .im (.int (P : Int)), .im (.list (iL ls)), .im (.tuple (iL row)), .im (tsD (ls.map (tfOf row))), .im (.int (g : Nat)), .un, .im (.tuple (iL row')), .un, .un, .un, .un, .un]) (r := row') rfl (fun d => rfl) (by omega) (by rw [hl4, hrow]; exact hls)
    rw [hmov] at l1
    have en : neD (.tuple ((ls.map (tfOf row)).map tfD)) (tsD (ls.map (tfOf row))) = some (.bool false) := ne_self (n := 3) pln_ts (by decide)
    simp only [ev_sB, ev_sOp, ev_sCB, ev_sCons, ev_sNil, ev_sOfL, ev_sLc, ev_sItL, ev_sV, List.getElem?_cons_succ, List.getElem?_cons_zero, Option.bind_some, fl, if_true, ev_wipe0, ev_wipe1, List.set_cons_succ, List.set_cons_zero, l1, ev_tupL, en]) rfl) ?_
  refine seqW_run (ρ1 := [.op v, .im (.int k), .dr, .im (.int (P : Int)), .im (.list (iL ls)), .im (.tuple (iL row)), .im (tsD (ls.map (tfOf row))), .im (.int (g : Nat)), .un, .im (.tuple (iL row')), .im (tsD bs), .un, .un, .un, .un]) (c1 := c5) (by
    simp only [ev_sAsg, ev_sCallD, ev_sCons, ev_sNil, ev_sV, List.getElem?_cons_succ, List.getElem?_cons_zero, Option.bind_some, e5, ev_qN, List.set_cons_succ, List.set_cons_zero]) ?_
  have loop := for_run (c := c5) (c1 := c6) (fi := sItL (sLst (sCons (sV 6) (sCons (sV 10) (sCons (sCallD F_l_bent 2 (sCons (sV 10) sNil)) sNil))))) (tg := qN 11) (body := sThen [11] (sIfS (sNot (sB (sCall F_l_told_so (sCons (sV 3) (sCons (sV 11) sNil))))) (sRet (sC (.bool false))) sNext))
    (ρ := [.op v, .im (.int k), .dr, .im (.int (P : Int)), .im (.list (iL ls)), .im (.tuple (iL row)), .im (tsD (ls.map (tfOf row))), .im (.int (g : Nat)), .un, .im (.tuple (iL row')), .im (tsD bs), .un, .un, .un, .un]) (xs := [tsD (ls.map (tfOf row)), tsD bs, tsD ds])
    (fun _ => [.op v, .im (.int k), .dr, .im (.int (P : Int)), .im (.list (iL ls)), .im (.tuple (iL row)), .im (tsD (ls.map (tfOf row))), .im (.int (g : Nat)), .un, .im (.tuple (iL row')), .im (tsD bs), .un, .un, .un, .un]) (by
      simp only [ev_sItL, ev_sLst, ev_sCons, ev_sNil, ev_sV, ev_sCallD, List.getElem?_cons_succ, List.getElem?_cons_zero, Option.bind_some, e6, List.length_cons, List.length_nil, Nat.zero_add, f3, if_true]) rfl (fun i x hx => by
      have hso : F_l_told_so [.int (P : Int), x] = some (.bool true) := by
        have := List.mem_of_getElem? hx
        simp only [List.mem_cons, List.not_mem_nil, or_false] at this
        rcases this with rfl | rfl | rfl
        · exact so1
        · exact so2
        · exact so3
      refine ⟨_, rfl, then_run (ρ1 := [.op v, .im (.int k), .dr, .im (.int (P : Int)), .im (.list (iL ls)), .im (.tuple (iL row)), .im (tsD (ls.map (tfOf row))), .im (.int (g : Nat)), .un, .im (.tuple (iL row')), .im (tsD bs), .im x, .un, .un, .un]) (DL.ifF (c1 := c6) ?_ rfl) rfl⟩
      simp only [ev_sNot, ev_sB, ev_sCall, ev_sCons, ev_sNil, ev_sV, List.set_cons_succ, List.set_cons_zero, List.getElem?_cons_succ, List.getElem?_cons_zero, Option.bind_some, hso, Bool.not_true])
  exact seqW_run loop (last_run hP1 hP24 hrow ok6)
end X
namespace X
open PySem PySem.Spec PyProof.Rows L2 DL EX LamX
abbrev qLaw : Str := (("law" : Str) ++ ".<locals>.") ++ "<lambda>"
abbrev XL (P : Program) (w : World) (K : PySem.W.Frag) (mg : Str → Option Value) (base : Heap) (f c : Addr) (A : Around) (l : List Env) (s : Shared) (H : Hp) (E : XK) : Cx := (cxOf CX0 P w K mg base N_law "law" (defScope s_law) f (.ref c) A l s H E).nox
section
variable {P : Program} {w : World} {K : PySem.W.Frag} {mg : Str → Option Value} {base : Heap}
theorem pe_lamT (T : TX K mg) (U : TE K mg) {fL c Pt : Addr} {A : Around} {l : List Env} {s : Shared} {H : Hp} {E : XK} {params : Arguments} {body : Expr} {scope : Scope} {p lpos pos : Pos} {t : XK → L2.TE} (TB : TabB base mg c Pt) (hr : Room 5 (XL P w K mg base fL c A l s H E).A)
    (L : LamS (defScope s_law) scope) (hdef : defaultsOf params (XL P w K mg base fL c A l s H E).env = ([], [])) (hbind : ∀ (q : Str) (cl : List (Str × Addr)) (pm cv ctv : Value), bindArgs (PySem.W.kla_fn "<lambda>" q params body scope cl pm cv ctv) ⟨[], []⟩ = pure [])
    (hbody : ∀ (A1 : Around) (l1 : List Env) (s1 : Shared) (H1 : Hp) (E1 : XK) (f c' : Addr), Room 3 (A1.deeper (lamEnv (XL P w K mg base fL c A l s H E) scope s1.heap.objs.size f c')) → PE (lamCxN (XL P w K mg base fL c A l s H E) A1 l1 s1 H1 E1 scope f c') body (t E1)) :
    PE (XL P w K mg base fL c A l s H E) (.Call (.Name "_law_told" p) [.Lambda params body scope lpos] [] pos) (tLam [(Pt, qLaw)] (TTr K U.S (.tuple [.str "NowError Short +"])) t) := by
  obtain ⟨oc, od, kV, doc, pm, an, cdv, ct, osl, e, lk, hcd⟩ := T.F_l_told.ex
  have hb := b_l_told T
  rw [e] at hb lk
  exact pe_lamN (X := XL P w K mg base fL c A l s H E) (Ng := N_l_told) (a := "deed") (by rfl) T.g_l_told T.F_l_told.kp lk hcd hb sc_l_told rfl (Or.inl rfl) (told_givesN (X := XL P w K mg base fL c A l s H E) T U) TB rfl (List.mem_singleton.mpr rfl) (fun q hq _ => by cases List.mem_singleton.mp hq; rfl) hr L hdef hbind hbody
theorem ok_law (T : TX K mg) (U : TE K mg) {c Pt : Addr} {kV doc pm ct oc : Value} {od an : Option Addr} {osl : Array (Option Value)} (TB : TabB base mg c Pt) (lk : K.lookup T.f_law = some ⟨oc, od, .func (PySem.W.fnOf "law" "law" (defArgs s_law) (defBody s_law) (defScope s_law) .none kV doc pm an (.ref c) ct), osl⟩) (hcd : PySem.W.codeIn K (.ref c) "law" = true)
    (hF : ∀ (ns : List Int) (z : Nat), ns.length ≤ 63 → z < 1000 → ∃ c, cellF ns z = some c ∧ ∀ v, ∃ r, S_lawW (rhoL v z 12) c = some r ∧ EndOk v 12 3 14 ShortD r) :
    FnOk P w K mg base CX0 6 T.f_law (PySem.W.fnOf "law" "law" (defArgs s_law) (defBody s_law) (defScope s_law) .none kV doc pm an (.ref c) ct) ["script"] (spLawT K [(Pt, qLaw)]) := by
  refine okLawT (k := 5) (n := 12) (M := 10) (i := 3) (j := 14) (F := cellF) (g := S_lawW) (cond := ShortD) lk hcd sc_law rfl (by decide) (fun A outer s H E hr => ⟨_, _, (pss_cons (ps_for PassesOwn.never rfl (pi_range1 (by rfl) T.b_range (pa_cons (pe_callB (call_maxK (K := K) rfl rfl) (by rfl) T.b_max (by decide +kernel) (pa_cons pe_int (pa_cons (pe_callB (call_minK (K := K) rfl rfl) (by rfl) T.b_min (by decide +kernel) (pa_cons pe_int (pa_cons (pe_callB (call_lenK (K := K) rfl) (by rfl) T.b_len (by decide +kernel) (pa_cons (pv 0) pa_nil)) pa_nil))) pa_nil))) pa_nil)) (pg_name (i := 1) sc_law.nd rfl (by first | exact Or.inl rfl | exact Or.inr rfl)) (pss_cons (ps_set (i := 2) sc_law.nd rfl (by first | exact Or.inl rfl | exact Or.inr rfl) (pe_call (ok_l_draws T) (hr.mono (by decide)) (by rfl) T.g_l_draws T.F_l_draws.kp (b_l_draws T) .nil pass0 (pa_cons (pv 0) (pa_cons (pv 1) pa_nil)))) (pss_cons (ps_set (i := 3) sc_law.nd rfl (by first | exact Or.inl rfl | exact Or.inr rfl) (pe_op (op_addK (K := K) rfl) pe_int (pe_call (ok_l_draw T) (hr.mono (by decide)) (by rfl) T.g_l_draw T.F_l_draw.kp (b_l_draw T) .nil pass0 (pa_cons (pv 2) (pa_cons pe_int pa_nil)))))
 (pss_cons (ps_asg (pe_tup (pa_cons (pe_call (ok_l_lengths T) (hr.mono (by decide)) (by rfl) T.g_l_lengths T.F_l_lengths.kp (b_l_lengths T) .nil pass0 (pa_cons (pv 2) (pa_cons (pv 3) pa_nil))) (pa_cons (pe_call (ok_l_signed T) (hr.mono (by decide)) (by rfl) T.g_l_signed T.F_l_signed.kp (b_l_signed T) .nil pass0 (pa_cons (pv 2) (pa_cons (pv 3) pa_nil))) pa_nil))) (pg_tupK (K := K) (n := 2) rfl (by rfl) (pgs_cons (pg_name (i := 4) sc_law.nd rfl (by first | exact Or.inl rfl | exact Or.inr rfl)) (pgs_cons (pg_name (i := 5) sc_law.nd rfl (by first | exact Or.inl rfl | exact Or.inr rfl)) pgs_nil))))
 (pss_cons (ps_par (i := 6) (j := 7) (by rfl) sc_law.nd rfl rfl (by decide) rfl rfl (pa_cons (pe_callTy (call_tupleK (K := K) rfl) (by rfl) T.b_tuple (by decide +kernel) (pa_cons (pe_lc (own := [("length", 8)]) (by rfl) sc_law.nd (pi_listK (K := K) rfl (pv 4)) (blkOk_by (own := [("length", 8)]) (N := N_law) (sc := defScope s_law) (by decide +kernel)) (fun _ _ _ _ _ => (pg_name (i := 8) sc_law.nd rfl (by first | exact Or.inl rfl | exact Or.inr rfl))) (fun _ _ _ _ _ => pts_nil) (fun _ _ _ _ _ => (pe_tup (pa_cons (pv 8) (pa_cons (pe_call (ok_l_counts T) (hr.mono (by decide)) (by rfl) T.g_l_counts T.F_l_counts.kp (b_l_counts T) .nil pass0 (pa_cons (pv 5) (pa_cons (pv 8) pa_nil))) pa_nil))))) pa_nil)) (pa_cons pe_int pa_nil)) (by rfl))
 (pss_cons (ps_for PassesOwn.never rfl (pi_listK (K := K) rfl (pv 4)) (pg_name (i := 8) sc_law.nd rfl (by first | exact Or.inl rfl | exact Or.inr rfl)) (pss_one (ps_set (i := 7) sc_law.nd rfl (by first | exact Or.inl rfl | exact Or.inr rfl) (pe_call (ok_l_common T) (hr.mono (by decide)) (by rfl) T.g_l_common T.F_l_common.kp (b_l_common T) .nil pass0 (pa_cons (pv 8) (pa_cons (pv 7) pa_nil))))))
 (pss_cons (ps_if (PW.pt (pw_or (pt_cmpR (op_neK (K := K) rfl hr.units) (pe_call (ok_as_one T) (hr.mono (by decide)) (by rfl) T.g_as_one T.F_as_one.kp (b_as_one T) .nil pass0 (pa_cons (pv 3) (pa_cons (pv 6) pa_nil))) (pe_tup (pa_cons (pv 7) (pa_cons (pe_call (ok_l_counts T) (hr.mono (by decide)) (by rfl) T.g_l_counts T.F_l_counts.kp (b_l_counts T) .nil pass0 (pa_cons (pv 5) (pa_cons (pv 7) pa_nil))) pa_nil))) (nomark _)) (pw_or1 (pt_cmpR op_notN (pe_callK0 (ok_weights T) (hr.mono (by decide)) (by rfl) T.g_weights T.F_weights.kp (kb_weights_k0 T) pass0 (pk_cons (pv 6) (pk_cons (pv 3) pk_nil))) pe_non (nomark _))))) (pss_one (ps_ret pe_bl)) pss_nil)
 (pss_cons (ps_set (i := 9) sc_law.nd rfl (by first | exact Or.inl rfl | exact Or.inr rfl) (pe_call (ok_l_moved T) (hr.mono (by decide)) (by rfl) T.g_l_moved T.F_l_moved.kp (b_l_moved T) .nil pass0 (pa_cons (pv 2) (pa_cons (pv 5) (pa_cons (pv 7) pa_nil)))))
 (pss_cons (ps_if (pt_cmpR (op_neK (K := K) rfl hr.units) (pe_callTy (call_tupleK (K := K) rfl) (by rfl) T.b_tuple (by decide +kernel) (pa_cons (pe_lc (own := [("length", 8)]) (by rfl) sc_law.nd (pi_listK (K := K) rfl (pv 4)) (blkOk_by (own := [("length", 8)]) (N := N_law) (sc := defScope s_law) (by decide +kernel)) (fun _ _ _ _ _ => (pg_name (i := 8) sc_law.nd rfl (by first | exact Or.inl rfl | exact Or.inr rfl))) (fun _ _ _ _ _ => pts_nil) (fun _ _ _ _ _ => (pe_tup (pa_cons (pv 8) (pa_cons (pe_call (ok_l_counts T) (hr.mono (by decide)) (by rfl) T.g_l_counts T.F_l_counts.kp (b_l_counts T) .nil pass0 (pa_cons (pv 9) (pa_cons (pv 8) pa_nil))) pa_nil))))) pa_nil)) (pv 6) (nomark _)) (pss_one (ps_ret pe_bl)) pss_nil)
 (pss_cons (ps_set (i := 10) sc_law.nd rfl (by first | exact Or.inl rfl | exact Or.inr rfl) (pe_call (ok_l_bent T) (hr.mono (by decide)) (by rfl) T.g_l_bent T.F_l_bent.kp (b_l_bent T) .nil pass0 (pa_cons (pv 2) (pa_cons (pv 6) pa_nil))))
 (pss_cons (ps_for PassesOwn.never rfl (pi_listK (K := K) rfl (pe_lst (pa_cons (pv 6) (pa_cons (pv 10) (pa_cons (pe_call (ok_l_bent T) (hr.mono (by decide)) (by rfl) T.g_l_bent T.F_l_bent.kp (b_l_bent T) .nil pass0 (pa_cons (pv 2) (pa_cons (pv 10) pa_nil))) pa_nil))))) (pg_name (i := 11) sc_law.nd rfl (by first | exact Or.inl rfl | exact Or.inr rfl)) (pss_one (ps_if (pt_not (pt_val (pe_call (ok_l_told_so T) (hr.mono (by decide)) (by rfl) T.g_l_told_so T.F_l_told_so.kp (b_l_told_so T) .nil pass0 (pa_cons (pv 3) (pa_cons (pv 11) pa_nil))))) (pss_one (ps_ret pe_bl)) pss_nil)))
 (pss_one (ps_if (pt_cmpR op_gt (pv 3) pe_int (nomark _)) (pss_cons (ps_par (i := 12) (j := 13) (by rfl) sc_law.nd rfl rfl (by decide) rfl rfl (pa_cons (pv 3) (pa_cons (pe_op op_sub (pe_op op_sub (pv 3) pe_int) (pe_call (ok_l_draw T) (hr.mono (by decide)) (by rfl) T.g_l_draw T.F_l_draw.kp (b_l_draw T) .nil pass0 (pa_cons (pv 2) (pa_cons (pe_op op_sub (pv 3) pe_int) pa_nil)))) pa_nil)) (by rfl)) (pss_one (ps_if (pt_cmpR op_lt (pv 3) (pe_op op_sub (pe_op (op_addK (K := K) rfl) (pv 12) (pv 13)) (pe_call (ok_l_common T) (hr.mono (by decide)) (by rfl) T.g_l_common T.F_l_common.kp (b_l_common T) .nil pass0 (pa_cons (pv 12) (pa_cons (pv 13) pa_nil)))) (nomark _)) (pss_cons (ps_set (i := 14) sc_law.nd rfl (by first | exact Or.inl rfl | exact Or.inr rfl) (pe_tup (pa_cons (pe_tup (pa_cons (pv 13) (pa_cons (pe_call (ok_l_counts T) (hr.mono (by decide)) (by rfl) T.g_l_counts T.F_l_counts.kp (b_l_counts T) .nil pass0 (pa_cons (pv 5) (pa_cons (pv 13) pa_nil))) pa_nil))) (pa_cons (pe_tup (pa_cons (pv 12) (pa_cons (pe_call (ok_l_counts T) (hr.mono (by decide)) (by rfl) T.g_l_counts T.F_l_counts.kp (b_l_counts T) .nil pass0 (pa_cons (pv 5) (pa_cons (pv 12) pa_nil))) pa_nil))) pa_nil)))) (pss_cons (ps_if (pt_cmpR (op_neK (K := K) rfl hr.units) (pe_lamT T U TB (hr.mono (by decide)) (lamS_by (by decide +kernel)) rfl (fun _ _ _ _ _ => rfl) (fun A l s H E f c' hr => pe_callS (okR_as_one T U) hr (by rfl) T.g_as_one T.F_as_one.kp (b_as_one T) (fun σ => L2N.passAt takes_lam σ) (pa_cons (pv 3) (pa_cons (pv 14) pa_nil)))) (pe_tup (pa_cons pe_str pa_nil)) (nomark _)) (pss_one (ps_ret pe_bl)) pss_nil) (pss_one (ps_if (pt_cmpR (op_neK (K := K) rfl hr.units) (pe_lamT T U TB (hr.mono (by decide)) (lamS_by (by decide +kernel)) rfl (fun _ _ _ _ _ => rfl) (fun A l s H E f c' hr => pe_callS (okR_weights T U) hr (by rfl) T.g_weights T.F_weights.kp (b_weights T) (fun σ => L2N.passAt takes_lam σ) (pa_cons (pv 3) (pa_cons (pv 14) pa_nil)))) (pe_tup (pa_cons pe_str pa_nil)) (nomark _)) (pss_one (ps_ret pe_bl)) pss_nil)))) pss_nil))) pss_nil))))))))))))) (pss_one (ps_ret pe_bl))), (impW_seq (imp_asg (imp_op d_add imp_int (imp_callD (F := F_l_draw) (i := 2) (imp_cons imp_int imp_nil))) (imp_gN 3))
 (impW_seq (imp_manyT (is := [4, 5]) (imp_avP (imp_callD (F := F_l_lengths) (i := 2) (imp_cons (imp_v 3) imp_nil)) (imp_avP (imp_callD (F := F_l_signed) (i := 2) (imp_cons (imp_v 3) imp_nil)) imp_avNil)) (by decide))
 (impW_seq (imp_many2 (imp_avP (imp_cb d_tuple (imp_cons (imp_ofL (imp_lc (vs := [8]) (imp_iL (imp_v 4)) (imp_gN 8) (only_N (by decide)) mono_N imp_yes (imp_tup (imp_cons (imp_v 8) (imp_cons (imp_call (F := F_l_counts) (imp_cons (imp_v 5) (imp_cons (imp_v 8) imp_nil))) imp_nil))))) imp_nil)) (imp_avP imp_int imp_avNil)))
 (impW_seq (imp_for (imp_iL (imp_v 4)) (imp_gN 8)
 (imp_then [8] (imp_asg (imp_call (F := F_l_common) (imp_cons (imp_v 8) (imp_cons (imp_v 7) imp_nil))) (imp_gN 7))))
 (impW_seq (imp_if (imp_or (imp_test (imp_op d_ne (imp_call (F := F_as_one) (imp_cons (imp_v 3) (imp_cons (imp_v 6) imp_nil))) (imp_tup (imp_cons (imp_v 7) (imp_cons (imp_call (F := F_l_counts) (imp_cons (imp_v 5) (imp_cons (imp_v 7) imp_nil))) imp_nil))))) (imp_test (imp_op d_notN (imp_callK (F := F_weights) (gD := kgo 0 2 [1, 0]) (kgOk 0 2 [1, 0]) imp_nil (imp_cons (imp_v 6) (imp_cons (imp_v 3) imp_nil))) imp_non)))
 (imp_ret imp_bl)
 imp_next)
 (impW_seq (imp_asg (imp_callD (F := F_l_moved) (i := 2) (imp_cons (imp_v 5) (imp_cons (imp_v 7) imp_nil))) (imp_gN 9))
 (impW_seq (imp_if (imp_test (imp_op d_ne (imp_cb d_tuple (imp_cons (imp_ofL (imp_lc (vs := [8]) (imp_iL (imp_v 4)) (imp_gN 8) (only_N (by decide)) mono_N imp_yes (imp_tup (imp_cons (imp_v 8) (imp_cons (imp_call (F := F_l_counts) (imp_cons (imp_v 9) (imp_cons (imp_v 8) imp_nil))) imp_nil))))) imp_nil)) (imp_v 6)))
 (imp_ret imp_bl)
 imp_next)
 (impW_seq (imp_asg (imp_callD (F := F_l_bent) (i := 2) (imp_cons (imp_v 6) imp_nil)) (imp_gN 10))
 (impW_seq (imp_for (imp_iL (imp_lst (imp_cons (imp_v 6) (imp_cons (imp_v 10) (imp_cons (imp_callD (F := F_l_bent) (i := 2) (imp_cons (imp_v 10) imp_nil)) imp_nil))))) (imp_gN 11)
 (imp_then [11] (imp_if (imp_not (imp_tB (imp_call (F := F_l_told_so) (imp_cons (imp_v 3) (imp_cons (imp_v 11) imp_nil)))))
 (imp_ret imp_bl)
 imp_next)))
 (impW_if (imp_test (imp_op d_gt (imp_v 3) imp_int)) (impW_seq (imp_many2 (imp_avP (imp_v 3) (imp_avP (imp_op d_sub (imp_op d_sub (imp_v 3) imp_int) (imp_callD (F := F_l_draw) (i := 2) (imp_cons (imp_op d_sub (imp_v 3) imp_int) imp_nil))) imp_avNil))) (impW_if (imp_test (imp_op d_lt (imp_v 3) (imp_op d_sub (imp_op d_add (imp_v 12) (imp_v 13)) (imp_call (F := F_l_common) (imp_cons (imp_v 12) (imp_cons (imp_v 13) imp_nil)))))) (impW_seq (imp_asg (imp_tup (imp_cons (imp_tup (imp_cons (imp_v 13) (imp_cons (imp_call (F := F_l_counts) (imp_cons (imp_v 5) (imp_cons (imp_v 13) imp_nil))) imp_nil))) (imp_cons (imp_tup (imp_cons (imp_v 12) (imp_cons (imp_call (F := F_l_counts) (imp_cons (imp_v 5) (imp_cons (imp_v 12) imp_nil))) imp_nil))) imp_nil))) (imp_gN 14)) impW_end) impW_next)) impW_next)))))))))), ?_⟩) hF
  intro D σ H B v w ds h3 h14 sB da hc hT h
  exact lam_if (S := U.S) (cond := ShortD) d_ne h3 h14 sB da hc ne_short hT fun H1 e1 T1 => lam_if (S := U.S) (cond := ShortD) d_ne h3 h14 (same_nt sB e1) (dpAll_nt _ _ da) hc ne_short T1 fun H2 e2 T2 => h H2 (e1.trans e2) T2
end
end X
namespace X
open PySem PySem.Spec PyProof.Rows L2 DL EX LamX
/-- a code object's table -/
def tabOf (o : Obj) : Option Addr := match o.data with
  | .fields vs => match (vs[11]? : Option Value) with
    | some (.ref P) => some P
    | _ => none
  | _ => none
theorem all_mk {l : PySem.W.OpenLaw} {w : World} {K : PySem.W.Frag} {h : Heap} {mg : Str → Option Value} {fa : Addr} (X : K.In h) (G : h.Ns mainGlobals mg) (hfa : mg "law" = some (.ref fa)) {f_is_between : Addr} {oc_is_between kV_is_between dc_is_between pm_is_between cd_is_between ct_is_between : Value} {od_is_between an_is_between : Option Addr} {sl_is_between : Array (Option Value)}
  {f_common : Addr} {oc_common kV_common dc_common pm_common cd_common ct_common : Value} {od_common an_common : Option Addr} {sl_common : Array (Option Value)}
  {f_need_long : Addr} {oc_need_long kV_need_long dc_need_long pm_need_long cd_need_long ct_need_long : Value} {od_need_long an_need_long : Option Addr} {sl_need_long : Array (Option Value)}
  {f_ties : Addr} {oc_ties kV_ties dc_ties pm_ties cd_ties ct_ties : Value} {od_ties an_ties : Option Addr} {sl_ties : Array (Option Value)}
  {f_as_one : Addr} {oc_as_one kV_as_one dc_as_one pm_as_one cd_as_one ct_as_one : Value} {od_as_one an_as_one : Option Addr} {sl_as_one : Array (Option Value)}
  {f_all_stands : Addr} {oc_all_stands kV_all_stands dc_all_stands pm_all_stands cd_all_stands ct_all_stands : Value} {od_all_stands an_all_stands : Option Addr} {sl_all_stands : Array (Option Value)}
  {f_lessened : Addr} {oc_lessened kV_lessened dc_lessened pm_lessened cd_lessened ct_lessened : Value} {od_lessened an_lessened : Option Addr} {sl_lessened : Array (Option Value)}
  {f_without : Addr} {oc_without kV_without dc_without pm_without cd_without ct_without : Value} {od_without an_without : Option Addr} {sl_without : Array (Option Value)}
  {f_weights : Addr} {oc_weights kV_weights dc_weights pm_weights cd_weights ct_weights : Value} {od_weights an_weights : Option Addr} {sl_weights : Array (Option Value)}
  {f_are_weights_by_form : Addr} {oc_are_weights_by_form kV_are_weights_by_form dc_are_weights_by_form pm_are_weights_by_form cd_are_weights_by_form ct_are_weights_by_form : Value} {od_are_weights_by_form an_are_weights_by_form : Option Addr} {sl_are_weights_by_form : Array (Option Value)}
  {f_are_weights : Addr} {oc_are_weights kV_are_weights dc_are_weights pm_are_weights cd_are_weights ct_are_weights : Value} {od_are_weights an_are_weights : Option Addr} {sl_are_weights : Array (Option Value)}
  {f_l_draw : Addr} {oc_l_draw kV_l_draw dc_l_draw pm_l_draw cd_l_draw ct_l_draw : Value} {od_l_draw an_l_draw : Option Addr} {sl_l_draw : Array (Option Value)}
  {f_l_of : Addr} {oc_l_of kV_l_of dc_l_of pm_l_of cd_l_of ct_l_of : Value} {od_l_of an_l_of : Option Addr} {sl_l_of : Array (Option Value)}
  {f_l_is_whole : Addr} {oc_l_is_whole kV_l_is_whole dc_l_is_whole pm_l_is_whole cd_l_is_whole ct_l_is_whole : Value} {od_l_is_whole an_l_is_whole : Option Addr} {sl_l_is_whole : Array (Option Value)}
  {f_l_are_weights : Addr} {oc_l_are_weights kV_l_are_weights dc_l_are_weights pm_l_are_weights cd_l_are_weights ct_l_are_weights : Value} {od_l_are_weights an_l_are_weights : Option Addr} {sl_l_are_weights : Array (Option Value)}
  {f_l_grown : Addr} {oc_l_grown kV_l_grown dc_l_grown pm_l_grown cd_l_grown ct_l_grown : Value} {od_l_grown an_l_grown : Option Addr} {sl_l_grown : Array (Option Value)}
  {f_l_counts : Addr} {oc_l_counts kV_l_counts dc_l_counts pm_l_counts cd_l_counts ct_l_counts : Value} {od_l_counts an_l_counts : Option Addr} {sl_l_counts : Array (Option Value)}
  {f_l_draws : Addr} {oc_l_draws kV_l_draws dc_l_draws pm_l_draws cd_l_draws ct_l_draws : Value} {od_l_draws an_l_draws : Option Addr} {sl_l_draws : Array (Option Value)}
  {f_l_common : Addr} {oc_l_common kV_l_common dc_l_common pm_l_common cd_l_common ct_l_common : Value} {od_l_common an_l_common : Option Addr} {sl_l_common : Array (Option Value)}
  {f_l_lengths : Addr} {oc_l_lengths kV_l_lengths dc_l_lengths pm_l_lengths cd_l_lengths ct_l_lengths : Value} {od_l_lengths an_l_lengths : Option Addr} {sl_l_lengths : Array (Option Value)}
  {f_l_signed : Addr} {oc_l_signed kV_l_signed dc_l_signed pm_l_signed cd_l_signed ct_l_signed : Value} {od_l_signed an_l_signed : Option Addr} {sl_l_signed : Array (Option Value)}
  {f_l_kind_of : Addr} {oc_l_kind_of kV_l_kind_of dc_l_kind_of pm_l_kind_of cd_l_kind_of ct_l_kind_of : Value} {od_l_kind_of an_l_kind_of : Option Addr} {sl_l_kind_of : Array (Option Value)}
  {f_l_refusal : Addr} {oc_l_refusal kV_l_refusal dc_l_refusal pm_l_refusal cd_l_refusal ct_l_refusal : Value} {od_l_refusal an_l_refusal : Option Addr} {sl_l_refusal : Array (Option Value)}
  {f_l_told : Addr} {oc_l_told kV_l_told dc_l_told pm_l_told cd_l_told ct_l_told : Value} {od_l_told an_l_told : Option Addr} {sl_l_told : Array (Option Value)}
  {f_l_moved : Addr} {oc_l_moved kV_l_moved dc_l_moved pm_l_moved cd_l_moved ct_l_moved : Value} {od_l_moved an_l_moved : Option Addr} {sl_l_moved : Array (Option Value)}
  {f_l_bent : Addr} {oc_l_bent kV_l_bent dc_l_bent pm_l_bent cd_l_bent ct_l_bent : Value} {od_l_bent an_l_bent : Option Addr} {sl_l_bent : Array (Option Value)}
  {f_l_told_so : Addr} {oc_l_told_so kV_l_told_so dc_l_told_so pm_l_told_so cd_l_told_so ct_l_told_so : Value} {od_l_told_so an_l_told_so : Option Addr} {sl_l_told_so : Array (Option Value)}
  {f_law : Addr} {oc_law kV_law dc_law pm_law cd_law ct_law : Value} {od_law an_law : Option Addr} {sl_law : Array (Option Value)}
  {t_MOST_WEIGHT : Tok}
  (a_is_between : PySem.W.nsIn K mainGlobals "is_between" = some (some (.ref f_is_between))) (l_is_between : K.lookup f_is_between = some ⟨oc_is_between, od_is_between, .func (PySem.W.fnOf "is_between" "is_between" (defArgs s_is_between) (defBody s_is_between) (defScope s_is_between) .none kV_is_between dc_is_between pm_is_between an_is_between cd_is_between ct_is_between), sl_is_between⟩) (c_is_between : PySem.W.codeIn K cd_is_between "is_between" = true) (k_is_between : PySem.W.keepIn K (.ref f_is_between) = true)
  (a_common : PySem.W.nsIn K mainGlobals "common" = some (some (.ref f_common))) (l_common : K.lookup f_common = some ⟨oc_common, od_common, .func (PySem.W.fnOf "common" "common" (defArgs s_common) (defBody s_common) (defScope s_common) .none kV_common dc_common pm_common an_common cd_common ct_common), sl_common⟩) (c_common : PySem.W.codeIn K cd_common "common" = true) (k_common : PySem.W.keepIn K (.ref f_common) = true)
  (a_need_long : PySem.W.nsIn K mainGlobals "need_long" = some (some (.ref f_need_long))) (l_need_long : K.lookup f_need_long = some ⟨oc_need_long, od_need_long, .func (PySem.W.fnOf "need_long" "need_long" (defArgs s_need_long) (defBody s_need_long) (defScope s_need_long) .none kV_need_long dc_need_long pm_need_long an_need_long cd_need_long ct_need_long), sl_need_long⟩) (c_need_long : PySem.W.codeIn K cd_need_long "need_long" = true) (k_need_long : PySem.W.keepIn K (.ref f_need_long) = true)
  (a_ties : PySem.W.nsIn K mainGlobals "ties" = some (some (.ref f_ties))) (l_ties : K.lookup f_ties = some ⟨oc_ties, od_ties, .func (PySem.W.fnOf "ties" "ties" (defArgs s_ties) (defBody s_ties) (defScope s_ties) .none kV_ties dc_ties pm_ties an_ties cd_ties ct_ties), sl_ties⟩) (c_ties : PySem.W.codeIn K cd_ties "ties" = true) (k_ties : PySem.W.keepIn K (.ref f_ties) = true)
  (a_as_one : PySem.W.nsIn K mainGlobals "as_one" = some (some (.ref f_as_one))) (l_as_one : K.lookup f_as_one = some ⟨oc_as_one, od_as_one, .func (PySem.W.fnOf "as_one" "as_one" (defArgs s_as_one) (defBody s_as_one) (defScope s_as_one) .none kV_as_one dc_as_one pm_as_one an_as_one cd_as_one ct_as_one), sl_as_one⟩) (c_as_one : PySem.W.codeIn K cd_as_one "as_one" = true) (k_as_one : PySem.W.keepIn K (.ref f_as_one) = true)
  (a_all_stands : PySem.W.nsIn K mainGlobals "all_stands" = some (some (.ref f_all_stands))) (l_all_stands : K.lookup f_all_stands = some ⟨oc_all_stands, od_all_stands, .func (PySem.W.fnOf "all_stands" "all_stands" (defArgs s_all_stands) (defBody s_all_stands) (defScope s_all_stands) .none kV_all_stands dc_all_stands pm_all_stands an_all_stands cd_all_stands ct_all_stands), sl_all_stands⟩) (c_all_stands : PySem.W.codeIn K cd_all_stands "all_stands" = true) (k_all_stands : PySem.W.keepIn K (.ref f_all_stands) = true)
  (a_lessened : PySem.W.nsIn K mainGlobals "lessened" = some (some (.ref f_lessened))) (l_lessened : K.lookup f_lessened = some ⟨oc_lessened, od_lessened, .func (PySem.W.fnOf "lessened" "lessened" (defArgs s_lessened) (defBody s_lessened) (defScope s_lessened) .none kV_lessened dc_lessened pm_lessened an_lessened cd_lessened ct_lessened), sl_lessened⟩) (c_lessened : PySem.W.codeIn K cd_lessened "lessened" = true) (k_lessened : PySem.W.keepIn K (.ref f_lessened) = true)
  (a_without : PySem.W.nsIn K mainGlobals "without" = some (some (.ref f_without))) (l_without : K.lookup f_without = some ⟨oc_without, od_without, .func (PySem.W.fnOf "without" "without" (defArgs s_without) (defBody s_without) (defScope s_without) .none kV_without dc_without pm_without an_without cd_without ct_without), sl_without⟩) (c_without : PySem.W.codeIn K cd_without "without" = true) (k_without : PySem.W.keepIn K (.ref f_without) = true)
  (a_weights : PySem.W.nsIn K mainGlobals "weights" = some (some (.ref f_weights))) (l_weights : K.lookup f_weights = some ⟨oc_weights, od_weights, .func (PySem.W.fnOf "weights" "weights" (defArgs s_weights) (defBody s_weights) (defScope s_weights) .none kV_weights dc_weights pm_weights an_weights cd_weights ct_weights), sl_weights⟩) (c_weights : PySem.W.codeIn K cd_weights "weights" = true) (k_weights : PySem.W.keepIn K (.ref f_weights) = true)
  (a_are_weights_by_form : PySem.W.nsIn K mainGlobals "are_weights_by_form" = some (some (.ref f_are_weights_by_form))) (l_are_weights_by_form : K.lookup f_are_weights_by_form = some ⟨oc_are_weights_by_form, od_are_weights_by_form, .func (PySem.W.fnOf "are_weights_by_form" "are_weights_by_form" (defArgs s_are_weights_by_form) (defBody s_are_weights_by_form) (defScope s_are_weights_by_form) .none kV_are_weights_by_form dc_are_weights_by_form pm_are_weights_by_form an_are_weights_by_form cd_are_weights_by_form ct_are_weights_by_form), sl_are_weights_by_form⟩) (c_are_weights_by_form : PySem.W.codeIn K cd_are_weights_by_form "are_weights_by_form" = true) (k_are_weights_by_form : PySem.W.keepIn K (.ref f_are_weights_by_form) = true)
  (a_are_weights : PySem.W.nsIn K mainGlobals "are_weights" = some (some (.ref f_are_weights))) (l_are_weights : K.lookup f_are_weights = some ⟨oc_are_weights, od_are_weights, .func (PySem.W.fnOf "are_weights" "are_weights" (defArgs s_are_weights) (defBody s_are_weights) (defScope s_are_weights) .none kV_are_weights dc_are_weights pm_are_weights an_are_weights cd_are_weights ct_are_weights), sl_are_weights⟩) (c_are_weights : PySem.W.codeIn K cd_are_weights "are_weights" = true) (k_are_weights : PySem.W.keepIn K (.ref f_are_weights) = true)
  (a_l_draw : PySem.W.nsIn K mainGlobals "_law_draw" = some (some (.ref f_l_draw))) (l_l_draw : K.lookup f_l_draw = some ⟨oc_l_draw, od_l_draw, .func (PySem.W.fnOf "_law_draw" "_law_draw" (defArgs s_l_draw) (defBody s_l_draw) (defScope s_l_draw) .none kV_l_draw dc_l_draw pm_l_draw an_l_draw cd_l_draw ct_l_draw), sl_l_draw⟩) (c_l_draw : PySem.W.codeIn K cd_l_draw "_law_draw" = true) (k_l_draw : PySem.W.keepIn K (.ref f_l_draw) = true)
  (a_l_of : PySem.W.nsIn K mainGlobals "_law_of" = some (some (.ref f_l_of))) (l_l_of : K.lookup f_l_of = some ⟨oc_l_of, od_l_of, .func (PySem.W.fnOf "_law_of" "_law_of" (defArgs s_l_of) (defBody s_l_of) (defScope s_l_of) .none kV_l_of dc_l_of pm_l_of an_l_of cd_l_of ct_l_of), sl_l_of⟩) (c_l_of : PySem.W.codeIn K cd_l_of "_law_of" = true) (k_l_of : PySem.W.keepIn K (.ref f_l_of) = true)
  (a_l_is_whole : PySem.W.nsIn K mainGlobals "_law_is_whole" = some (some (.ref f_l_is_whole))) (l_l_is_whole : K.lookup f_l_is_whole = some ⟨oc_l_is_whole, od_l_is_whole, .func (PySem.W.fnOf "_law_is_whole" "_law_is_whole" (defArgs s_l_is_whole) (defBody s_l_is_whole) (defScope s_l_is_whole) .none kV_l_is_whole dc_l_is_whole pm_l_is_whole an_l_is_whole cd_l_is_whole ct_l_is_whole), sl_l_is_whole⟩) (c_l_is_whole : PySem.W.codeIn K cd_l_is_whole "_law_is_whole" = true) (k_l_is_whole : PySem.W.keepIn K (.ref f_l_is_whole) = true)
  (a_l_are_weights : PySem.W.nsIn K mainGlobals "_law_are_weights" = some (some (.ref f_l_are_weights))) (l_l_are_weights : K.lookup f_l_are_weights = some ⟨oc_l_are_weights, od_l_are_weights, .func (PySem.W.fnOf "_law_are_weights" "_law_are_weights" (defArgs s_l_are_weights) (defBody s_l_are_weights) (defScope s_l_are_weights) .none kV_l_are_weights dc_l_are_weights pm_l_are_weights an_l_are_weights cd_l_are_weights ct_l_are_weights), sl_l_are_weights⟩) (c_l_are_weights : PySem.W.codeIn K cd_l_are_weights "_law_are_weights" = true) (k_l_are_weights : PySem.W.keepIn K (.ref f_l_are_weights) = true)
  (a_l_grown : PySem.W.nsIn K mainGlobals "_law_grown" = some (some (.ref f_l_grown))) (l_l_grown : K.lookup f_l_grown = some ⟨oc_l_grown, od_l_grown, .func (PySem.W.fnOf "_law_grown" "_law_grown" (defArgs s_l_grown) (defBody s_l_grown) (defScope s_l_grown) .none kV_l_grown dc_l_grown pm_l_grown an_l_grown cd_l_grown ct_l_grown), sl_l_grown⟩) (c_l_grown : PySem.W.codeIn K cd_l_grown "_law_grown" = true) (k_l_grown : PySem.W.keepIn K (.ref f_l_grown) = true)
  (a_l_counts : PySem.W.nsIn K mainGlobals "_law_counts" = some (some (.ref f_l_counts))) (l_l_counts : K.lookup f_l_counts = some ⟨oc_l_counts, od_l_counts, .func (PySem.W.fnOf "_law_counts" "_law_counts" (defArgs s_l_counts) (defBody s_l_counts) (defScope s_l_counts) .none kV_l_counts dc_l_counts pm_l_counts an_l_counts cd_l_counts ct_l_counts), sl_l_counts⟩) (c_l_counts : PySem.W.codeIn K cd_l_counts "_law_counts" = true) (k_l_counts : PySem.W.keepIn K (.ref f_l_counts) = true)
  (a_l_draws : PySem.W.nsIn K mainGlobals "_law_draws" = some (some (.ref f_l_draws))) (l_l_draws : K.lookup f_l_draws = some ⟨oc_l_draws, od_l_draws, .func (PySem.W.fnOf "_law_draws" "_law_draws" (defArgs s_l_draws) (defBody s_l_draws) (defScope s_l_draws) .none kV_l_draws dc_l_draws pm_l_draws an_l_draws cd_l_draws ct_l_draws), sl_l_draws⟩) (c_l_draws : PySem.W.codeIn K cd_l_draws "_law_draws" = true) (k_l_draws : PySem.W.keepIn K (.ref f_l_draws) = true)
  (a_l_common : PySem.W.nsIn K mainGlobals "_law_common" = some (some (.ref f_l_common))) (l_l_common : K.lookup f_l_common = some ⟨oc_l_common, od_l_common, .func (PySem.W.fnOf "_law_common" "_law_common" (defArgs s_l_common) (defBody s_l_common) (defScope s_l_common) .none kV_l_common dc_l_common pm_l_common an_l_common cd_l_common ct_l_common), sl_l_common⟩) (c_l_common : PySem.W.codeIn K cd_l_common "_law_common" = true) (k_l_common : PySem.W.keepIn K (.ref f_l_common) = true)
  (a_l_lengths : PySem.W.nsIn K mainGlobals "_law_lengths" = some (some (.ref f_l_lengths))) (l_l_lengths : K.lookup f_l_lengths = some ⟨oc_l_lengths, od_l_lengths, .func (PySem.W.fnOf "_law_lengths" "_law_lengths" (defArgs s_l_lengths) (defBody s_l_lengths) (defScope s_l_lengths) .none kV_l_lengths dc_l_lengths pm_l_lengths an_l_lengths cd_l_lengths ct_l_lengths), sl_l_lengths⟩) (c_l_lengths : PySem.W.codeIn K cd_l_lengths "_law_lengths" = true) (k_l_lengths : PySem.W.keepIn K (.ref f_l_lengths) = true)
  (a_l_signed : PySem.W.nsIn K mainGlobals "_law_signed" = some (some (.ref f_l_signed))) (l_l_signed : K.lookup f_l_signed = some ⟨oc_l_signed, od_l_signed, .func (PySem.W.fnOf "_law_signed" "_law_signed" (defArgs s_l_signed) (defBody s_l_signed) (defScope s_l_signed) .none kV_l_signed dc_l_signed pm_l_signed an_l_signed cd_l_signed ct_l_signed), sl_l_signed⟩) (c_l_signed : PySem.W.codeIn K cd_l_signed "_law_signed" = true) (k_l_signed : PySem.W.keepIn K (.ref f_l_signed) = true)
  (a_l_kind_of : PySem.W.nsIn K mainGlobals "_law_kind_of" = some (some (.ref f_l_kind_of))) (l_l_kind_of : K.lookup f_l_kind_of = some ⟨oc_l_kind_of, od_l_kind_of, .func (PySem.W.fnOf "_law_kind_of" "_law_kind_of" (defArgs s_l_kind_of) (defBody s_l_kind_of) (defScope s_l_kind_of) .none kV_l_kind_of dc_l_kind_of pm_l_kind_of an_l_kind_of cd_l_kind_of ct_l_kind_of), sl_l_kind_of⟩) (c_l_kind_of : PySem.W.codeIn K cd_l_kind_of "_law_kind_of" = true) (k_l_kind_of : PySem.W.keepIn K (.ref f_l_kind_of) = true)
  (a_l_refusal : PySem.W.nsIn K mainGlobals "_law_refusal" = some (some (.ref f_l_refusal))) (l_l_refusal : K.lookup f_l_refusal = some ⟨oc_l_refusal, od_l_refusal, .func (PySem.W.fnOf "_law_refusal" "_law_refusal" (defArgs s_l_refusal) (defBody s_l_refusal) (defScope s_l_refusal) .none kV_l_refusal dc_l_refusal pm_l_refusal an_l_refusal cd_l_refusal ct_l_refusal), sl_l_refusal⟩) (c_l_refusal : PySem.W.codeIn K cd_l_refusal "_law_refusal" = true) (k_l_refusal : PySem.W.keepIn K (.ref f_l_refusal) = true)
  (a_l_told : PySem.W.nsIn K mainGlobals "_law_told" = some (some (.ref f_l_told))) (l_l_told : K.lookup f_l_told = some ⟨oc_l_told, od_l_told, .func (PySem.W.fnOf "_law_told" "_law_told" (defArgs s_l_told) (defBody s_l_told) (defScope s_l_told) .none kV_l_told dc_l_told pm_l_told an_l_told cd_l_told ct_l_told), sl_l_told⟩) (c_l_told : PySem.W.codeIn K cd_l_told "_law_told" = true) (k_l_told : PySem.W.keepIn K (.ref f_l_told) = true)
  (a_l_moved : PySem.W.nsIn K mainGlobals "_law_moved" = some (some (.ref f_l_moved))) (l_l_moved : K.lookup f_l_moved = some ⟨oc_l_moved, od_l_moved, .func (PySem.W.fnOf "_law_moved" "_law_moved" (defArgs s_l_moved) (defBody s_l_moved) (defScope s_l_moved) .none kV_l_moved dc_l_moved pm_l_moved an_l_moved cd_l_moved ct_l_moved), sl_l_moved⟩) (c_l_moved : PySem.W.codeIn K cd_l_moved "_law_moved" = true) (k_l_moved : PySem.W.keepIn K (.ref f_l_moved) = true)
  (a_l_bent : PySem.W.nsIn K mainGlobals "_law_bent" = some (some (.ref f_l_bent))) (l_l_bent : K.lookup f_l_bent = some ⟨oc_l_bent, od_l_bent, .func (PySem.W.fnOf "_law_bent" "_law_bent" (defArgs s_l_bent) (defBody s_l_bent) (defScope s_l_bent) .none kV_l_bent dc_l_bent pm_l_bent an_l_bent cd_l_bent ct_l_bent), sl_l_bent⟩) (c_l_bent : PySem.W.codeIn K cd_l_bent "_law_bent" = true) (k_l_bent : PySem.W.keepIn K (.ref f_l_bent) = true)
  (a_l_told_so : PySem.W.nsIn K mainGlobals "_law_told_so" = some (some (.ref f_l_told_so))) (l_l_told_so : K.lookup f_l_told_so = some ⟨oc_l_told_so, od_l_told_so, .func (PySem.W.fnOf "_law_told_so" "_law_told_so" (defArgs s_l_told_so) (defBody s_l_told_so) (defScope s_l_told_so) .none kV_l_told_so dc_l_told_so pm_l_told_so an_l_told_so cd_l_told_so ct_l_told_so), sl_l_told_so⟩) (c_l_told_so : PySem.W.codeIn K cd_l_told_so "_law_told_so" = true) (k_l_told_so : PySem.W.keepIn K (.ref f_l_told_so) = true)
  (a_law : PySem.W.nsIn K mainGlobals "law" = some (some (.ref f_law))) (l_law : K.lookup f_law = some ⟨oc_law, od_law, .func (PySem.W.fnOf "law" "law" (defArgs s_law) (defBody s_law) (defScope s_law) .none kV_law dc_law pm_law an_law cd_law ct_law), sl_law⟩) (c_law : PySem.W.codeIn K cd_law "law" = true) (k_law : PySem.W.keepIn K (.ref f_law) = true)
  (z_MOST_WEIGHT : PySem.W.nsIn K mainGlobals "MOST_WEIGHT" = some (some (.int (10000000000000000000000000000000000000000) t_MOST_WEIGHT)))
  (z_ValueError : PySem.W.nsIn K mainGlobals "ValueError" = some none)
  (z_abs : PySem.W.nsIn K mainGlobals "abs" = some none)
  (z_all : PySem.W.nsIn K mainGlobals "all" = some none)
  (z_any : PySem.W.nsIn K mainGlobals "any" = some none)
  (z_bool : PySem.W.nsIn K mainGlobals "bool" = some none)
  (z_enumerate : PySem.W.nsIn K mainGlobals "enumerate" = some none)
  (z_int : PySem.W.nsIn K mainGlobals "int" = some none)
  (z_isinstance : PySem.W.nsIn K mainGlobals "isinstance" = some none)
  (z_len : PySem.W.nsIn K mainGlobals "len" = some none)
  (z_list : PySem.W.nsIn K mainGlobals "list" = some none)
  (z_max : PySem.W.nsIn K mainGlobals "max" = some none)
  (z_min : PySem.W.nsIn K mainGlobals "min" = some none)
  (z_range : PySem.W.nsIn K mainGlobals "range" = some none)
  (z_set : PySem.W.nsIn K mainGlobals "set" = some none)
  (z_sorted : PySem.W.nsIn K mainGlobals "sorted" = some none)
  (z_sum : PySem.W.nsIn K mainGlobals "sum" = some none)
  (z_tuple : PySem.W.nsIn K mainGlobals "tuple" = some none)
  (z_zip : PySem.W.nsIn K mainGlobals "zip" = some none)
  {cL Pt : Addr} {oL : Obj}
  (e_cd : cd_law = .ref cL)
  (e_ob : K.lookup cL = some oL)
  (e_pt : tabOf oL = some Pt)
  (e_hd : PySem.W.codeHdIn K cL Pt = true)
  (e_no : K.lookup Pt = none)
  (e_tb : h.get? Pt = some (PySem.W.tabObj #[]))
  {C_FrameError : Addr} {C_Empty : Addr} {C_FormError : Addr} {C_Full : Addr} {C_NoCap : Addr} {C_NoFrame : Addr} {C_NoPlace : Addr} {C_NoRow : Addr} {C_NothingLeft : Addr} {C_NowError : Addr} {C_Short : Addr}
  (m_Empty : PySem.W.nsIn K mainGlobals "Empty" = some (some (.ref C_Empty)))
  (m_FormError : PySem.W.nsIn K mainGlobals "FormError" = some (some (.ref C_FormError)))
  (m_Full : PySem.W.nsIn K mainGlobals "Full" = some (some (.ref C_Full)))
  (m_NoCap : PySem.W.nsIn K mainGlobals "NoCap" = some (some (.ref C_NoCap)))
  (m_NoFrame : PySem.W.nsIn K mainGlobals "NoFrame" = some (some (.ref C_NoFrame)))
  (m_NoPlace : PySem.W.nsIn K mainGlobals "NoPlace" = some (some (.ref C_NoPlace)))
  (m_NoRow : PySem.W.nsIn K mainGlobals "NoRow" = some (some (.ref C_NoRow)))
  (m_NothingLeft : PySem.W.nsIn K mainGlobals "NothingLeft" = some (some (.ref C_NothingLeft)))
  (m_NowError : PySem.W.nsIn K mainGlobals "NowError" = some (some (.ref C_NowError)))
  (m_Short : PySem.W.nsIn K mainGlobals "Short" = some (some (.ref C_Short)))
  (m_FrameError : PySem.W.nsIn K mainGlobals "FrameError" = some (some (.ref C_FrameError)))
  (i_Empty : PySem.W.isClsIn K C_Empty = true)
  (t_Empty : PySem.W.typeIn K (.ref C_Empty) = some (.type "type"))
  (s_Empty : PySem.W.subIn K (.ref C_Short) (.ref C_Empty) = some false)
  (i_FormError : PySem.W.isClsIn K C_FormError = true)
  (t_FormError : PySem.W.typeIn K (.ref C_FormError) = some (.type "type"))
  (s_FormError : PySem.W.subIn K (.ref C_Short) (.ref C_FormError) = some false)
  (i_Full : PySem.W.isClsIn K C_Full = true)
  (t_Full : PySem.W.typeIn K (.ref C_Full) = some (.type "type"))
  (s_Full : PySem.W.subIn K (.ref C_Short) (.ref C_Full) = some false)
  (i_NoCap : PySem.W.isClsIn K C_NoCap = true)
  (t_NoCap : PySem.W.typeIn K (.ref C_NoCap) = some (.type "type"))
  (s_NoCap : PySem.W.subIn K (.ref C_Short) (.ref C_NoCap) = some false)
  (i_NoFrame : PySem.W.isClsIn K C_NoFrame = true)
  (t_NoFrame : PySem.W.typeIn K (.ref C_NoFrame) = some (.type "type"))
  (s_NoFrame : PySem.W.subIn K (.ref C_Short) (.ref C_NoFrame) = some false)
  (i_NoPlace : PySem.W.isClsIn K C_NoPlace = true)
  (t_NoPlace : PySem.W.typeIn K (.ref C_NoPlace) = some (.type "type"))
  (s_NoPlace : PySem.W.subIn K (.ref C_Short) (.ref C_NoPlace) = some false)
  (i_NoRow : PySem.W.isClsIn K C_NoRow = true)
  (t_NoRow : PySem.W.typeIn K (.ref C_NoRow) = some (.type "type"))
  (s_NoRow : PySem.W.subIn K (.ref C_Short) (.ref C_NoRow) = some false)
  (i_NothingLeft : PySem.W.isClsIn K C_NothingLeft = true)
  (t_NothingLeft : PySem.W.typeIn K (.ref C_NothingLeft) = some (.type "type"))
  (s_NothingLeft : PySem.W.subIn K (.ref C_Short) (.ref C_NothingLeft) = some false)
  (i_NowError : PySem.W.isClsIn K C_NowError = true)
  (t_NowError : PySem.W.typeIn K (.ref C_NowError) = some (.type "type"))
  (s_NowError : PySem.W.subIn K (.ref C_Short) (.ref C_NowError) = some true)
  (i_Short : PySem.W.isClsIn K C_Short = true)
  (t_Short : PySem.W.typeIn K (.ref C_Short) = some (.type "type"))
  (s_Short : PySem.W.subIn K (.ref C_Short) (.ref C_Short) = some true)
  (x_S : PySem.W.excIn K C_Short [.type "ValueError", .type "Exception", .type "BaseException", .type "object"] "ValueError.__new__" = true)
  (kp_S : PySem.W.keepIn K (.ref C_Short) = true)
  (bs_S : PySem.W.subIn K (.ref C_Short) (.type "BaseException") = some true)
  (v_S : PySem.W.subIn K (.ref C_Short) (.type "ValueError") = some true)
  (hg_S : PySem.W.findIn K (.ref C_Short) "__getattribute__" = some (some (.builtin "BaseException.__getattribute__")))
  (hk_S : PySem.W.findIn K (.ref C_Short) "__getattr__" = some none)
  (hd_S : PySem.W.hasDictIn K C_Short = true)
  (ha_S : PySem.W.findIn K (.ref C_Short) "__class__" = some (some (.builtin "object.__class__")))
  (hn_S : PySem.W.specialIn K (.builtin "object.__class__") "__get__" = some (some (.builtin "getset_descriptor.__get__")))
  (ht_S : PySem.W.takesIn K (.builtin "object.__class__") = some true)
  (hm_S : PySem.W.mroIn K C_Short (.type "object") = some true)
  (bF : PySem.W.subIn K (.ref C_FrameError) (.type "BaseException") = some true)
  (dF : PySem.W.hasDictIn K C_FrameError = true)
  (tF : PySem.W.typeIn K (.ref C_FrameError) = some (.type "type"))
  (sF : PySem.W.subIn K (.ref C_Short) (.ref C_FrameError) = some true) :
    LamX.LawAtS l w K CX0 6 63 "script" mg fa h := by
  have e := hfa.symm.trans (PySem.W.mg_of X G a_law)
  cases e
  let T : TX K mg := { f_is_between := _, d_is_between := _, F_is_between := fun_mk (st := s_is_between) l_is_between c_is_between k_is_between, g_is_between := PySem.W.mg_of X G a_is_between, f_common := _, d_common := _, F_common := fun_mk (st := s_common) l_common c_common k_common, g_common := PySem.W.mg_of X G a_common, f_need_long := _, d_need_long := _, F_need_long := fun_mk (st := s_need_long) l_need_long c_need_long k_need_long, g_need_long := PySem.W.mg_of X G a_need_long, f_ties := _, d_ties := _, F_ties := fun_mk (st := s_ties) l_ties c_ties k_ties, g_ties := PySem.W.mg_of X G a_ties, f_as_one := _, d_as_one := _, F_as_one := fun_mk (st := s_as_one) l_as_one c_as_one k_as_one, g_as_one := PySem.W.mg_of X G a_as_one, f_all_stands := _, d_all_stands := _, F_all_stands := fun_mk (st := s_all_stands) l_all_stands c_all_stands k_all_stands, g_all_stands := PySem.W.mg_of X G a_all_stands, f_lessened := _, d_lessened := _, F_lessened := fun_mk (st := s_lessened) l_lessened c_lessened k_lessened, g_lessened := PySem.W.mg_of X G a_lessened, f_without := _, d_without := _, F_without := fun_mk (st := s_without) l_without c_without k_without, g_without := PySem.W.mg_of X G a_without, f_weights := _, d_weights := _, F_weights := fun_mk (st := s_weights) l_weights c_weights k_weights, g_weights := PySem.W.mg_of X G a_weights, f_are_weights_by_form := _, d_are_weights_by_form := _, F_are_weights_by_form := fun_mk (st := s_are_weights_by_form) l_are_weights_by_form c_are_weights_by_form k_are_weights_by_form, g_are_weights_by_form := PySem.W.mg_of X G a_are_weights_by_form, f_are_weights := _, d_are_weights := _, F_are_weights := fun_mk (st := s_are_weights) l_are_weights c_are_weights k_are_weights, g_are_weights := PySem.W.mg_of X G a_are_weights, f_l_draw := _, d_l_draw := _, F_l_draw := fun_mk (st := s_l_draw) l_l_draw c_l_draw k_l_draw, g_l_draw := PySem.W.mg_of X G a_l_draw, f_l_of := _, d_l_of := _, F_l_of := fun_mk (st := s_l_of) l_l_of c_l_of k_l_of, g_l_of := PySem.W.mg_of X G a_l_of, f_l_is_whole := _, d_l_is_whole := _, F_l_is_whole := fun_mk (st := s_l_is_whole) l_l_is_whole c_l_is_whole k_l_is_whole, g_l_is_whole := PySem.W.mg_of X G a_l_is_whole, f_l_are_weights := _, d_l_are_weights := _, F_l_are_weights := fun_mk (st := s_l_are_weights) l_l_are_weights c_l_are_weights k_l_are_weights, g_l_are_weights := PySem.W.mg_of X G a_l_are_weights, f_l_grown := _, d_l_grown := _, F_l_grown := fun_mk (st := s_l_grown) l_l_grown c_l_grown k_l_grown, g_l_grown := PySem.W.mg_of X G a_l_grown, f_l_counts := _, d_l_counts := _, F_l_counts := fun_mk (st := s_l_counts) l_l_counts c_l_counts k_l_counts, g_l_counts := PySem.W.mg_of X G a_l_counts, f_l_draws := _, d_l_draws := _, F_l_draws := fun_mk (st := s_l_draws) l_l_draws c_l_draws k_l_draws, g_l_draws := PySem.W.mg_of X G a_l_draws, f_l_common := _, d_l_common := _, F_l_common := fun_mk (st := s_l_common) l_l_common c_l_common k_l_common, g_l_common := PySem.W.mg_of X G a_l_common, f_l_lengths := _, d_l_lengths := _, F_l_lengths := fun_mk (st := s_l_lengths) l_l_lengths c_l_lengths k_l_lengths, g_l_lengths := PySem.W.mg_of X G a_l_lengths, f_l_signed := _, d_l_signed := _, F_l_signed := fun_mk (st := s_l_signed) l_l_signed c_l_signed k_l_signed, g_l_signed := PySem.W.mg_of X G a_l_signed, f_l_kind_of := _, d_l_kind_of := _, F_l_kind_of := fun_mk (st := s_l_kind_of) l_l_kind_of c_l_kind_of k_l_kind_of, g_l_kind_of := PySem.W.mg_of X G a_l_kind_of, f_l_refusal := _, d_l_refusal := _, F_l_refusal := fun_mk (st := s_l_refusal) l_l_refusal c_l_refusal k_l_refusal, g_l_refusal := PySem.W.mg_of X G a_l_refusal, f_l_told := _, d_l_told := _, F_l_told := fun_mk (st := s_l_told) l_l_told c_l_told k_l_told, g_l_told := PySem.W.mg_of X G a_l_told, f_l_moved := _, d_l_moved := _, F_l_moved := fun_mk (st := s_l_moved) l_l_moved c_l_moved k_l_moved, g_l_moved := PySem.W.mg_of X G a_l_moved, f_l_bent := _, d_l_bent := _, F_l_bent := fun_mk (st := s_l_bent) l_l_bent c_l_bent k_l_bent, g_l_bent := PySem.W.mg_of X G a_l_bent, f_l_told_so := _, d_l_told_so := _, F_l_told_so := fun_mk (st := s_l_told_so) l_l_told_so c_l_told_so k_l_told_so, g_l_told_so := PySem.W.mg_of X G a_l_told_so, f_law := _, d_law := _, F_law := fun_mk (st := s_law) l_law c_law k_law, g_law := PySem.W.mg_of X G a_law, t_MOST_WEIGHT := t_MOST_WEIGHT, c_MOST_WEIGHT := PySem.W.mg_of X G z_MOST_WEIGHT, b_ValueError := PySem.W.mg_none_of X G z_ValueError, b_abs := PySem.W.mg_none_of X G z_abs, b_all := PySem.W.mg_none_of X G z_all, b_any := PySem.W.mg_none_of X G z_any, b_bool := PySem.W.mg_none_of X G z_bool, b_enumerate := PySem.W.mg_none_of X G z_enumerate, b_int := PySem.W.mg_none_of X G z_int, b_isinstance := PySem.W.mg_none_of X G z_isinstance, b_len := PySem.W.mg_none_of X G z_len, b_list := PySem.W.mg_none_of X G z_list, b_max := PySem.W.mg_none_of X G z_max, b_min := PySem.W.mg_none_of X G z_min, b_range := PySem.W.mg_none_of X G z_range, b_set := PySem.W.mg_none_of X G z_set, b_sorted := PySem.W.mg_none_of X G z_sorted, b_sum := PySem.W.mg_none_of X G z_sum, b_tuple := PySem.W.mg_none_of X G z_tuple, b_zip := PySem.W.mg_none_of X G z_zip }
  let U : TE K mg := { S := C_Short, F := C_FrameError, sh := ⟨PySem.W.mg_of X G m_Short, x_S, kp_S, bs_S, t_Short, s_Short, v_S, ⟨hg_S, hk_S, bs_S, hd_S, ha_S, hn_S, ht_S, hm_S⟩, PySem.W.mg_of X G m_FrameError, PySem.W.exm_ref bF dF tF sF⟩, C_Empty := C_Empty, o_Empty := ⟨PySem.W.mg_of X G m_Empty, i_Empty, t_Empty, s_Empty⟩, C_FormError := C_FormError, o_FormError := ⟨PySem.W.mg_of X G m_FormError, i_FormError, t_FormError, s_FormError⟩, C_Full := C_Full, o_Full := ⟨PySem.W.mg_of X G m_Full, i_Full, t_Full, s_Full⟩, C_NoCap := C_NoCap, o_NoCap := ⟨PySem.W.mg_of X G m_NoCap, i_NoCap, t_NoCap, s_NoCap⟩, C_NoFrame := C_NoFrame, o_NoFrame := ⟨PySem.W.mg_of X G m_NoFrame, i_NoFrame, t_NoFrame, s_NoFrame⟩, C_NoPlace := C_NoPlace, o_NoPlace := ⟨PySem.W.mg_of X G m_NoPlace, i_NoPlace, t_NoPlace, s_NoPlace⟩, C_NoRow := C_NoRow, o_NoRow := ⟨PySem.W.mg_of X G m_NoRow, i_NoRow, t_NoRow, s_NoRow⟩, C_NothingLeft := C_NothingLeft, o_NothingLeft := ⟨PySem.W.mg_of X G m_NothingLeft, i_NothingLeft, t_NothingLeft, s_NothingLeft⟩, C_NowError := C_NowError, o_NowError := ⟨PySem.W.mg_of X G m_NowError, i_NowError, t_NowError, s_NowError⟩, C_Short := C_Short, o_Short := ⟨PySem.W.mg_of X G m_Short, i_Short, t_Short, s_Short⟩ }
  subst e_cd
  refine ⟨_, [(cL, Pt)], spLawT K [(Pt, qLaw)], fun p hp => ?_, fun p hp => ?_, fun p hp => ?_, fun s v => .of_eq rfl, fun H a ns hl _ hH hS => ⟨a, ns, rfl, hS, hl, fun p hp => ?_, fun _ => rfl⟩, fun base _ _ TB => ok_law T U (TB (cL, Pt) (List.mem_singleton.mpr rfl)) l_law c_law lawW⟩
  · cases List.mem_singleton.mp hp; exact e_tb
  · cases List.mem_singleton.mp hp; exact e_no
  · cases List.mem_singleton.mp hp; exact PySem.W.codeHd_of_K X e_hd
  · cases List.mem_singleton.mp hp; exact TabS.nil (hH (cL, Pt) (List.mem_singleton.mpr rfl))
end X

open PySem PySem.W PyProof.Rows
set_option maxHeartbeats 0 in
theorem PySem.Challenge.cw_framecount_k21_whole_several_frames_as_o_holds : PySem.Challenge.rw_framecount_k21_whole_several_frames_as_o.Holds := by
  w_on; o_law; k_head; (case hw => w_witness2)
  k_fill
  refine LamX.walk_ofTs (l := PySem.Challenge.rw_framecount_k21_whole_several_frames_as_o) (n := 63) (k := 6) (x := "script") (CX := fun _ => L2.CX0) rfl (by decide) rfl ⟨rfl, by decide, by decide⟩ (fun w h Y => PySem.W.km_in_of Y) ?F (fun _ _ _ _ _ h => h)
  case F =>
    intro w mg fa h Y KX G hmg
    refine' X.all_mk KX G hmg ?a_is_between ?l_is_between ?c_is_between ?k_is_between ?a_common ?l_common ?c_common ?k_common ?a_need_long ?l_need_long ?c_need_long ?k_need_long ?a_ties ?l_ties ?c_ties ?k_ties ?a_as_one ?l_as_one ?c_as_one ?k_as_one ?a_all_stands ?l_all_stands ?c_all_stands ?k_all_stands ?a_lessened ?l_lessened ?c_lessened ?k_lessened ?a_without ?l_without ?c_without ?k_without ?a_weights ?l_weights ?c_weights ?k_weights ?a_are_weights_by_form ?l_are_weights_by_form ?c_are_weights_by_form ?k_are_weights_by_form ?a_are_weights ?l_are_weights ?c_are_weights ?k_are_weights ?a_l_draw ?l_l_draw ?c_l_draw ?k_l_draw ?a_l_of ?l_l_of ?c_l_of ?k_l_of ?a_l_is_whole ?l_l_is_whole ?c_l_is_whole ?k_l_is_whole ?a_l_are_weights ?l_l_are_weights ?c_l_are_weights ?k_l_are_weights ?a_l_grown ?l_l_grown ?c_l_grown ?k_l_grown ?a_l_counts ?l_l_counts ?c_l_counts ?k_l_counts ?a_l_draws ?l_l_draws ?c_l_draws ?k_l_draws ?a_l_common ?l_l_common ?c_l_common ?k_l_common ?a_l_lengths ?l_l_lengths ?c_l_lengths ?k_l_lengths ?a_l_signed ?l_l_signed ?c_l_signed ?k_l_signed ?a_l_kind_of ?l_l_kind_of ?c_l_kind_of ?k_l_kind_of ?a_l_refusal ?l_l_refusal ?c_l_refusal ?k_l_refusal ?a_l_told ?l_l_told ?c_l_told ?k_l_told ?a_l_moved ?l_l_moved ?c_l_moved ?k_l_moved ?a_l_bent ?l_l_bent ?c_l_bent ?k_l_bent ?a_l_told_so ?l_l_told_so ?c_l_told_so ?k_l_told_so ?a_law ?l_law ?c_law ?k_law ?z_MOST_WEIGHT ?z_ValueError ?z_abs ?z_all ?z_any ?z_bool ?z_enumerate ?z_int ?z_isinstance ?z_len ?z_list ?z_max ?z_min ?z_range ?z_set ?z_sorted ?z_sum ?z_tuple ?z_zip ?e_cd ?e_ob ?e_pt ?e_hd ?e_no ?e_tb ?m_Empty ?m_FormError ?m_Full ?m_NoCap ?m_NoFrame ?m_NoPlace ?m_NoRow ?m_NothingLeft ?m_NowError ?m_Short ?m_FrameError ?i_Empty ?t_Empty ?s_Empty ?i_FormError ?t_FormError ?s_FormError ?i_Full ?t_Full ?s_Full ?i_NoCap ?t_NoCap ?s_NoCap ?i_NoFrame ?t_NoFrame ?s_NoFrame ?i_NoPlace ?t_NoPlace ?s_NoPlace ?i_NoRow ?t_NoRow ?s_NoRow ?i_NothingLeft ?t_NothingLeft ?s_NothingLeft ?i_NowError ?t_NowError ?s_NowError ?i_Short ?t_Short ?s_Short ?x_S ?kp_S ?bs_S ?v_S ?hg_S ?hk_S ?hd_S ?ha_S ?hn_S ?ht_S ?hm_S ?bF ?dF ?tF ?sF
    (case a_is_between => k_is); (case l_is_between => k_is); (case c_is_between => k_is); (case k_is_between => k_is); (case a_common => k_is); (case l_common => k_is); (case c_common => k_is); (case k_common => k_is); (case a_need_long => k_is); (case l_need_long => k_is); (case c_need_long => k_is); (case k_need_long => k_is); (case a_ties => k_is); (case l_ties => k_is); (case c_ties => k_is); (case k_ties => k_is); (case a_as_one => k_is); (case l_as_one => k_is); (case c_as_one => k_is); (case k_as_one => k_is); (case a_all_stands => k_is); (case l_all_stands => k_is); (case c_all_stands => k_is); (case k_all_stands => k_is); (case a_lessened => k_is); (case l_lessened => k_is); (case c_lessened => k_is); (case k_lessened => k_is); (case a_without => k_is); (case l_without => k_is); (case c_without => k_is); (case k_without => k_is); (case a_weights => k_is); (case l_weights => k_is); (case c_weights => k_is); (case k_weights => k_is); (case a_are_weights_by_form => k_is); (case l_are_weights_by_form => k_is); (case c_are_weights_by_form => k_is); (case k_are_weights_by_form => k_is); (case a_are_weights => k_is); (case l_are_weights => k_is); (case c_are_weights => k_is); (case k_are_weights => k_is); (case a_l_draw => k_is); (case l_l_draw => k_is); (case c_l_draw => k_is); (case k_l_draw => k_is); (case a_l_of => k_is); (case l_l_of => k_is); (case c_l_of => k_is); (case k_l_of => k_is); (case a_l_is_whole => k_is); (case l_l_is_whole => k_is); (case c_l_is_whole => k_is); (case k_l_is_whole => k_is); (case a_l_are_weights => k_is); (case l_l_are_weights => k_is); (case c_l_are_weights => k_is); (case k_l_are_weights => k_is); (case a_l_grown => k_is); (case l_l_grown => k_is); (case c_l_grown => k_is); (case k_l_grown => k_is); (case a_l_counts => k_is); (case l_l_counts => k_is); (case c_l_counts => k_is); (case k_l_counts => k_is); (case a_l_draws => k_is); (case l_l_draws => k_is); (case c_l_draws => k_is); (case k_l_draws => k_is); (case a_l_common => k_is); (case l_l_common => k_is); (case c_l_common => k_is); (case k_l_common => k_is); (case a_l_lengths => k_is); (case l_l_lengths => k_is); (case c_l_lengths => k_is); (case k_l_lengths => k_is); (case a_l_signed => k_is); (case l_l_signed => k_is); (case c_l_signed => k_is); (case k_l_signed => k_is); (case a_l_kind_of => k_is); (case l_l_kind_of => k_is); (case c_l_kind_of => k_is); (case k_l_kind_of => k_is); (case a_l_refusal => k_is); (case l_l_refusal => k_is); (case c_l_refusal => k_is); (case k_l_refusal => k_is); (case a_l_told => k_is); (case l_l_told => k_is); (case c_l_told => k_is); (case k_l_told => k_is); (case a_l_moved => k_is); (case l_l_moved => k_is); (case c_l_moved => k_is); (case k_l_moved => k_is); (case a_l_bent => k_is); (case l_l_bent => k_is); (case c_l_bent => k_is); (case k_l_bent => k_is); (case a_l_told_so => k_is); (case l_l_told_so => k_is); (case c_l_told_so => k_is); (case k_l_told_so => k_is); (case a_law => k_is); (case l_law => k_is); (case c_law => k_is); (case k_law => k_is); (case z_MOST_WEIGHT => k_is); (case z_ValueError => k_is); (case z_abs => k_is); (case z_all => k_is); (case z_any => k_is); (case z_bool => k_is); (case z_enumerate => k_is); (case z_int => k_is); (case z_isinstance => k_is); (case z_len => k_is); (case z_list => k_is); (case z_max => k_is); (case z_min => k_is); (case z_range => k_is); (case z_set => k_is); (case z_sorted => k_is); (case z_sum => k_is); (case z_tuple => k_is); (case z_zip => k_is); (case e_cd => rfl); (case e_ob => k_is); (case e_pt => rfl); (case e_hd => kernel_rfl); (case e_no => kernel_rfl); (case e_tb => exact PySem.W.km_tabs_of Y _ (by first | k_mem | simp)); (case m_Empty => k_is); (case m_FormError => k_is); (case m_Full => k_is); (case m_NoCap => k_is); (case m_NoFrame => k_is); (case m_NoPlace => k_is); (case m_NoRow => k_is); (case m_NothingLeft => k_is); (case m_NowError => k_is); (case m_Short => k_is); (case m_FrameError => k_is); (case i_Empty => k_is); (case t_Empty => k_is); (case s_Empty => k_is); (case i_FormError => k_is); (case t_FormError => k_is); (case s_FormError => k_is); (case i_Full => k_is); (case t_Full => k_is); (case s_Full => k_is); (case i_NoCap => k_is); (case t_NoCap => k_is); (case s_NoCap => k_is); (case i_NoFrame => k_is); (case t_NoFrame => k_is); (case s_NoFrame => k_is); (case i_NoPlace => k_is); (case t_NoPlace => k_is); (case s_NoPlace => k_is); (case i_NoRow => k_is); (case t_NoRow => k_is); (case s_NoRow => k_is); (case i_NothingLeft => k_is); (case t_NothingLeft => k_is); (case s_NothingLeft => k_is); (case i_NowError => k_is); (case t_NowError => k_is); (case s_NowError => k_is); (case i_Short => k_is); (case t_Short => k_is); (case s_Short => k_is); (case x_S => k_exc); (case kp_S => k_is); (case bs_S => k_is); (case v_S => k_is); (case hg_S => k_is); (case hk_S => k_is); (case hd_S => k_is); (case ha_S => k_is); (case hn_S => k_is); (case ht_S => k_is); (case hm_S => k_is); (case bF => k_is); (case dF => k_is); (case tF => k_is); (case sF => k_is)

