import PyProof.Rows.All
import Wide.All
import OpenK.AllK
import Wide.FinOn
import HandS.ForMost
import HandS.IsInst
import HandS.TupAny
import HandS.TupMul
import HandS.Deep
import HandS.Zip
import HandS.Wide
import HandS.Style
import HandS.Flow
import KE.GoesEnum
import KE.GoesZip
import KE.GoesMore
import HandS.TupLe
import HandS.SetFor
import HandS.Strs
import HandS.Conv
import HandS.WordsDict
import HandS.Codes
import HandS.TupSets
import PySem.Challenge.RW_framecount_k13_bars_and_looks_judged
set_option Elab.async false
set_option linter.all false
set_option exponentiation.threshold 400
set_option maxRecDepth 100000
set_option maxHeartbeats 0
/-! DLa: data semantics over the hand layer: what stands in slots as plain data, and when a reading follows from it. -/
namespace DL
open PySem PySem.Spec L2

abbrev D := PyData
abbrev Dr := Int × Int
/-- what a slot holds: nothing known; plain data; a list of its own; a dict of its own (int keys); the same while it is walked; the draws' cell -/
inductive Sl where
  | un
  | im (d : D)
  | ol (xs : List D)
  | od (kvs : List (Int × D))
  | fd (kvs : List (Int × D))
  | op (v : V)
  | dr
abbrev Rho := List Sl
abbrev SE := Rho → Dr → Option (D × Dr)
abbrev SB := Rho → Dr → Option (Bool × Dr)
abbrev SA := Rho → Dr → Option (List D × Dr)
inductive Fl where
  | nx | bk | ct
  | rt (d : D)
abbrev SS := Rho → Dr → Option (Fl × Rho × Dr)

/-! ### heaps -/
theorem sqT_mono {K : PySem.W.Frag} {H H' : Hp} {a : Addr} {xs : List V} (e : Same H H') (h : SqT K H a xs) : SqT K H' a xs := by
  rcases h with (h | ⟨o, h⟩) | h
  · exact .inl (.inl (e _ _ h))
  · exact .inl (.inr ⟨o, e _ _ h⟩)
  · exact .inr h
/-! a value that stands for plain data: its lists and tuples are tracked ones -/
mutual
inductive Dp (K : PySem.W.Frag) (H : Hp) : V → PyData → Prop
  | non : Dp K H .non .none
  | bl (b : Bool) : Dp K H (.bl b) (.bool b)
  | int (i : Int) : Dp K H (.int i) (.int i)
  | str (x : Str) : Dp K H (.str x) (.str x)
  | lst {a : Addr} {xs : List V} {ds : List PyData} : H a = some (.lst xs) → DpAll K H xs ds → Dp K H (.ref a) (.list ds)
  | tup {a : Addr} {xs : List V} {ds : List PyData} : H a = some (.tup xs) → DpAll K H xs ds → Dp K H (.ref a) (.tuple ds)
inductive DpAll (K : PySem.W.Frag) (H : Hp) : List V → List PyData → Prop
  | nil : DpAll K H [] []
  | cons {v : V} {vs : List V} {d : PyData} {ds : List PyData} : Dp K H v d → DpAll K H vs ds → DpAll K H (v :: vs) (d :: ds)
end
mutual
theorem dp_old {K : PySem.W.Frag} {B : Hp} : ∀ (d : PyData) (v : V), Dp K B v d → L2.Dp K B v d
  | .none, _, h => by cases h; exact .non
  | .bool b, _, h => by cases h; exact .bl b
  | .int i, _, h => by cases h; exact .int i
  | .str x, _, h => by cases h; exact .str x
  | .list ds, _, h => by
    cases h with
    | lst hs ha => exact .lst (SqL.of hs) (dpAll_old ds _ ha)
  | .tuple ds, _, h => by
    cases h with
    | tup hs ha => exact .tup (SqT.of hs) (dpAll_old ds _ ha)
  | .dict _, _, h => by cases h
theorem dpAll_old {K : PySem.W.Frag} {B : Hp} : ∀ (ds : List PyData) (vs : List V), DpAll K B vs ds → L2.DpAll K B vs ds
  | [], _, h => by cases h; exact .nil
  | d :: ds, _, h => by
    cases h with
    | cons h1 h2 => exact .cons (dp_old d _ h1) (dpAll_old ds _ h2)
end
mutual
theorem dp_mono {K : PySem.W.Frag} {B B' : Hp} (e : Same B B') : ∀ (d : PyData) (v : V), Dp K B v d → Dp K B' v d
  | .none, _, h => by cases h; exact .non
  | .bool b, _, h => by cases h; exact .bl b
  | .int i, _, h => by cases h; exact .int i
  | .str x, _, h => by cases h; exact .str x
  | .list ds, _, h => by
    cases h with
    | lst hs ha => exact .lst (e _ _ hs) (dpAll_mono e ds _ ha)
  | .tuple ds, _, h => by
    cases h with
    | tup hs ha => exact .tup (e _ _ hs) (dpAll_mono e ds _ ha)
  | .dict _, _, h => by cases h
theorem dpAll_mono {K : PySem.W.Frag} {B B' : Hp} (e : Same B B') : ∀ (ds : List PyData) (vs : List V), DpAll K B vs ds → DpAll K B' vs ds
  | [], _, h => by cases h; exact .nil
  | d :: ds, _, h => by
    cases h with
    | cons h1 h2 => exact .cons (dp_mono e d _ h1) (dpAll_mono e ds _ h2)
end
theorem dpAll_len {K : PySem.W.Frag} {B : Hp} : ∀ {ds : List PyData} {vs : List V}, DpAll K B vs ds → vs.length = ds.length
  | [], _, h => by cases h; rfl
  | d :: ds, _, h => by
    cases h with
    | cons h1 h2 => rw [List.length_cons, List.length_cons, dpAll_len h2]
theorem dpAll_get {K : PySem.W.Frag} {B : Hp} : ∀ {ds : List PyData} {vs : List V} {i : Nat} {d : D}, DpAll K B vs ds → ds[i]? = some d → ∃ v, vs[i]? = some v ∧ Dp K B v d
  | [], _, _, _, _, e => by simp at e
  | x :: ds, _, 0, d, h, e => by
    cases h with
    | cons h1 h2 =>
      simp at e
      subst e
      exact ⟨_, rfl, h1⟩
  | x :: ds, _, i + 1, d, h, e => by
    cases h with
    | cons h1 h2 =>
      obtain ⟨v, e1, e2⟩ := dpAll_get (i := i) h2 (by simpa using e)
      exact ⟨v, by simpa using e1, e2⟩
theorem dpAll_append {K : PySem.W.Frag} {B : Hp} : ∀ {ds es : List PyData} {vs us : List V}, DpAll K B vs ds → DpAll K B us es → DpAll K B (vs ++ us) (ds ++ es)
  | [], _, _, _, h, h' => by cases h; exact h'
  | d :: ds, _, _, _, h, h' => by
    cases h with
    | cons h1 h2 => exact .cons h1 (dpAll_append h2 h')
theorem dpAll_set {K : PySem.W.Frag} {B : Hp} {v : V} {d : D} (hd : Dp K B v d) : ∀ {ds : List PyData} {vs : List V} (i : Nat), DpAll K B vs ds → DpAll K B (vs.set i v) (ds.set i d)
  | [], _, _, h => by cases h; exact .nil
  | x :: ds, _, 0, h => by
    cases h with
    | cons h1 h2 => exact .cons hd h2
  | x :: ds, _, i + 1, h => by
    cases h with
    | cons h1 h2 => exact .cons h1 (dpAll_set hd i h2)
theorem dpAll_take {K : PySem.W.Frag} {B : Hp} : ∀ {ds : List PyData} {vs : List V} (n : Nat), DpAll K B vs ds → DpAll K B (vs.take n) (ds.take n)
  | _, _, 0, _ => .nil
  | [], _, n + 1, h => by cases h; exact .nil
  | d :: ds, _, n + 1, h => by
    cases h with
    | cons h1 h2 => exact .cons h1 (dpAll_take n h2)
theorem dpAll_drop {K : PySem.W.Frag} {B : Hp} : ∀ {ds : List PyData} {vs : List V} (n : Nat), DpAll K B vs ds → DpAll K B (vs.drop n) (ds.drop n)
  | _, _, 0, h => h
  | [], _, n + 1, h => by cases h; exact .nil
  | d :: ds, _, n + 1, h => by
    cases h with
    | cons h1 h2 => exact dpAll_drop n h2
theorem dpAll_erase {K : PySem.W.Frag} {B : Hp} : ∀ {ds : List PyData} {vs : List V} (n : Nat), DpAll K B vs ds → DpAll K B (vs.eraseIdx n) (ds.eraseIdx n)
  | [], _, _, h => by cases h; exact .nil
  | d :: ds, _, 0, h => by
    cases h with
    | cons h1 h2 => exact h2
  | d :: ds, _, n + 1, h => by
    cases h with
    | cons h1 h2 => exact .cons h1 (dpAll_erase n h2)
theorem dpAll_snoc {K : PySem.W.Frag} {B : Hp} {ds : List PyData} {vs : List V} {v : V} {d : D} (h : DpAll K B vs ds) (hd : Dp K B v d) : DpAll K B (vs ++ [v]) (ds ++ [d]) := dpAll_append h (.cons hd .nil)
theorem dpAll_rev {K : PySem.W.Frag} {B : Hp} : ∀ {ds : List PyData} {vs : List V}, DpAll K B vs ds → DpAll K B vs.reverse ds.reverse
  | [], _, h => by cases h; exact .nil
  | d :: ds, _, h => by
    cases h with
    | cons h1 h2 => rw [List.reverse_cons, List.reverse_cons]; exact dpAll_snoc (dpAll_rev h2) h1
theorem dpAll_rep {K : PySem.W.Frag} {B : Hp} {ds : List PyData} {vs : List V} (h : DpAll K B vs ds) : ∀ k : Nat, DpAll K B (List.replicate k vs).flatten (List.replicate k ds).flatten
  | 0 => .nil
  | k + 1 => by rw [List.replicate_succ, List.replicate_succ, List.flatten_cons, List.flatten_cons]; exact dpAll_append h (dpAll_rep h k)

/-- scalars need no heap -/
def flatD : D → Bool
  | .none | .bool _ | .int _ | .str _ => true
  | _ => false
theorem dp_flat {K : PySem.W.Frag} {B B' : Hp} {v : V} {d : D} (f : flatD d = true) (h : Dp K B v d) : Dp K B' v d := by
  cases h with
  | non => exact .non
  | bl b => exact .bl b
  | int i => exact .int i
  | str x => exact .str x
  | lst _ _ => cases f
  | tup _ _ => cases f
theorem dp_int {K : PySem.W.Frag} {B : Hp} {v : V} {i : Int} (h : Dp K B v (.int i)) : v = .int i := by cases h; rfl
theorem dp_bool {K : PySem.W.Frag} {B : Hp} {v : V} {b : Bool} (h : Dp K B v (.bool b)) : v = .bl b := by cases h; rfl
theorem dp_none {K : PySem.W.Frag} {B : Hp} {v : V} (h : Dp K B v .none) : v = .non := by cases h; rfl
theorem dp_str {K : PySem.W.Frag} {B : Hp} {v : V} {x : Str} (h : Dp K B v (.str x)) : v = .str x := by cases h; rfl
theorem dp_list {K : PySem.W.Frag} {B : Hp} {v : V} {ds : List D} (h : Dp K B v (.list ds)) : ∃ a xs, v = .ref a ∧ B a = some (.lst xs) ∧ DpAll K B xs ds := by
  cases h with
  | lst h1 h2 => exact ⟨_, _, rfl, h1, h2⟩
theorem dp_tuple {K : PySem.W.Frag} {B : Hp} {v : V} {ds : List D} (h : Dp K B v (.tuple ds)) : ∃ a xs, v = .ref a ∧ B a = some (.tup xs) ∧ DpAll K B xs ds := by
  cases h with
  | tup h1 h2 => exact ⟨_, _, rfl, h1, h2⟩

/-- an expression's way: the persistent part grows, all that is tracked stands but the cell -/
structure Fw (ad : Option Addr) (c' : Dr) (B H B' H' : Hp) : Prop where
  bb : Same B B'
  bh : Same B' H'
  keep : ∀ a o, ad ≠ some a → H a = some o → H' a = some o
  cell : ∀ a, ad = some a → H' a = some (.lst [.int c'.1, .int c'.2])
  fresh : ∀ a o, B' a = some o → B a = none → H a = none
theorem Fw.trans {ad : Option Addr} {c1 c2 : Dr} {B H B1 H1 B2 H2 : Hp} (x : Fw ad c1 B H B1 H1) (y : Fw ad c2 B1 H1 B2 H2) (hc : ∀ a, ad = some a → B1 a = none ∧ B2 a = none) : Fw ad c2 B H B2 H2 where
  bb := x.bb.trans y.bb
  bh := y.bh
  keep := fun a o n h => y.keep a o n (x.keep a o n h)
  cell := y.cell
  fresh := fun a o h n => by
    cases q : B1 a with
    | some u => exact x.fresh a u q n
    | none =>
      have h1 := y.fresh a o h q
      cases r : H a with
      | none => rfl
      | some w =>
        have na : ad ≠ some a := fun e => by
          have := (hc a e).2
          rw [h] at this; cases this
        rw [x.keep a w na r] at h1; cases h1
/-- nothing that is tracked changes -/
structure Grow (B H B' H' : Hp) : Prop where
  bb : Same B B'
  bh : Same B' H'
  hh : Same H H'
  fresh : ∀ a o, B' a = some o → B a = none → H a = none
theorem Grow.refl {B H : Hp} (s : Same B H) : Grow B H B H := ⟨Same.refl B, s, Same.refl H, fun _ _ h n => by rw [h] at n; cases n⟩
theorem Grow.trans {B H B1 H1 B2 H2 : Hp} (x : Grow B H B1 H1) (y : Grow B1 H1 B2 H2) : Grow B H B2 H2 :=
  ⟨x.bb.trans y.bb, y.bh, x.hh.trans y.hh, fun a o h n => by
    cases q : B1 a with
    | some u => exact x.fresh a u q n
    | none => exact x.hh.free (y.fresh a o h q)⟩
theorem Grow.fw {ad : Option Addr} {c : Dr} {B H B' H' : Hp} (g : Grow B H B' H') (hc : ∀ a, ad = some a → H a = some (.lst [.int c.1, .int c.2])) : Fw ad c B H B' H' :=
  ⟨g.bb, g.bh, fun a o _ h => g.hh a o h, fun a e => g.hh a _ (hc a e), g.fresh⟩
/-- a new object, persistent from now on -/
theorem Grow.new {B H : Hp} {p : Addr} {o : HO} (s : Same B H) (hp : H p = none) : Grow B H (upd B p o) (upd H p o) where
  bb := fun b u h => by rw [upd_ne (ne_of_none h (s.free hp))]; exact h
  bh := fun b u h => by
    by_cases e : b = p
    · subst e; rw [upd_same] at h ⊢; exact h
    · rw [upd_ne e] at h ⊢; exact s b u h
  hh := fun b u h => by rw [upd_ne (ne_of_none h hp)]; exact h
  fresh := fun b u h n => by
    by_cases e : b = p
    · subst e; exact hp
    · rw [upd_ne e, n] at h; cases h
theorem same_new {H : Hp} {p : Addr} {o : HO} (hp : H p = none) : Same H (upd H p o) := fun b u h => by rw [upd_ne (ne_of_none h hp)]; exact h

/-! ### slots -/
def KvOk (K : PySem.W.Frag) (B : Hp) : List (Key × V) → List (Int × D) → Prop := Paired fun p q => p.1 = Sum.inl q.1 ∧ Dp K B p.2 q.2
theorem paired_map {α β : Type} {F G : α → β → Prop} : ∀ {l₁ : List α} {l₂ : List β}, Paired F l₁ l₂ → (∀ a b, F a b → G a b) → Paired G l₁ l₂
  | _, _, .nil, _ => .nil
  | _, _, .cons r t, f => .cons (f _ _ r) (paired_map t f)
theorem kv_mono {K : PySem.W.Frag} {B B' : Hp} (e : Same B B') {ks : List (Key × V)} {kvs : List (Int × D)} (h : KvOk K B ks kvs) : KvOk K B' ks kvs :=
  paired_map h fun _ _ z => ⟨z.1, dp_mono e _ _ z.2⟩
def SlOk (K : PySem.W.Frag) (ad : Option Addr) (B H : Hp) (o : Option (Option V)) : Sl → Prop
  | .un => True
  | .im d => ∃ v, o = some (some v) ∧ Dp K B v d
  | .ol xs => ∃ a vs, o = some (some (.ref a)) ∧ H a = some (.lst vs) ∧ B a = none ∧ ad ≠ some a ∧ DpAll K B vs xs
  | .od kvs => ∃ a ks, o = some (some (.ref a)) ∧ H a = some (.dK ks) ∧ B a = none ∧ ad ≠ some a ∧ KvOk K B ks kvs
  | .fd kvs => ∃ a w ks, o = some (some (.ref a)) ∧ H a = some (.frz w (.dK ks)) ∧ B a = none ∧ ad ≠ some a ∧ KvOk K B ks kvs
  | .op v => o = some (some v)
  | .dr => ∃ a, ad = some a ∧ o = some (some (.ref a))
def owns : Sl → Bool
  | .ol _ => true
  | .od _ => true
  | _ => false
def Owned (ρ : Rho) (σ : L2.St) (a : Addr) : Prop := ∃ (i : Nat) (s : Sl), ρ[i]? = some s ∧ owns s = true ∧ σ[i]? = some (some (.ref a))
structure Rl (K : PySem.W.Frag) (ad : Option Addr) (B : Hp) (σ : L2.St) (H : Hp) (ρ : Rho) (c : Dr) : Prop where
  sub : Same B H
  cell : ∀ a, ad = some a → H a = some (.lst [.int c.1, .int c.2])
  cfree : ∀ a, ad = some a → B a = none
  len : σ.length = ρ.length
  slot : ∀ (i : Nat) (s : Sl), ρ[i]? = some s → SlOk K ad B H σ[i]? s
  sep : ∀ (i j : Nat) (s t : Sl) (a : Addr), i ≠ j → ρ[i]? = some s → ρ[j]? = some t → owns s = true → owns t = true → σ[i]? = some (some (.ref a)) → σ[j]? ≠ some (some (.ref a))
section
variable {K : PySem.W.Frag} {ad : Option Addr} {B B' H H' : Hp} {σ : L2.St} {ρ : Rho} {c c' : Dr}
theorem SlOk.fw {o : Option (Option V)} {s : Sl} (h : SlOk K ad B H o s) (x : Fw ad c' B H B' H') : SlOk K ad B' H' o s := by
  have nb : ∀ {a : Addr} {u : HO}, H a = some u → B a = none → B' a = none := fun {a u} h1 h2 => by
    cases q : B' a with
    | none => rfl
    | some w => rw [x.fresh a w q h2] at h1; cases h1
  cases s with
  | un => trivial
  | im d =>
    obtain ⟨v, e, r⟩ := h
    exact ⟨v, e, dp_mono x.bb _ _ r⟩
  | ol xs =>
    obtain ⟨a, vs, e, h1, h2, h3, h4⟩ := h
    exact ⟨a, vs, e, x.keep a _ h3 h1, nb h1 h2, h3, dpAll_mono x.bb _ _ h4⟩
  | od kvs =>
    obtain ⟨a, ks, e, h1, h2, h3, h4⟩ := h
    exact ⟨a, ks, e, x.keep a _ h3 h1, nb h1 h2, h3, kv_mono x.bb h4⟩
  | fd kvs =>
    obtain ⟨a, w, ks, e, h1, h2, h3, h4⟩ := h
    exact ⟨a, w, ks, e, x.keep a _ h3 h1, nb h1 h2, h3, kv_mono x.bb h4⟩
  | op v => exact h
  | dr => exact h
theorem Fw.cfree (x : Fw ad c' B H B' H') (r : Rl K ad B σ H ρ c) : ∀ a, ad = some a → B' a = none := fun a e => by
  cases q : B' a with
  | none => rfl
  | some w =>
    have h1 := x.fresh a w q (r.cfree a e)
    rw [r.cell a e] at h1; cases h1
theorem Rl.fw (r : Rl K ad B σ H ρ c) (x : Fw ad c' B H B' H') : Rl K ad B' σ H' ρ c' :=
  ⟨x.bh, x.cell, x.cfree r, r.len, fun i s e => (r.slot i s e).fw x, r.sep⟩
theorem Rl.fwRefl (r : Rl K ad B σ H ρ c) : Fw ad c B H B H := (Grow.refl r.sub).fw r.cell
theorem Rl.trans {c1 c2 : Dr} {B1 H1 B2 H2 : Hp} (r : Rl K ad B σ H ρ c) (x : Fw ad c1 B H B1 H1) (y : Fw ad c2 B1 H1 B2 H2) : Fw ad c2 B H B2 H2 :=
  x.trans y fun a e => ⟨x.cfree r a e, y.cfree (r.fw x) a e⟩
/-- a slot set to plain data -/
theorem Rl.setIm (r : Rl K ad B σ H ρ c) {i : Nat} {v : V} {d : D} (h : Dp K B v d) : Rl K ad B (σ.set i (some v)) H (ρ.set i (.im d)) c := by
  refine ⟨r.sub, r.cell, r.cfree, by rw [List.length_set, List.length_set]; exact r.len, fun j s e => ?_, fun j k s t a hjk e1 e2 o1 o2 g1 => ?_⟩
  · by_cases hj : j = i
    · subst hj
      have hl : j < ρ.length := by
        have := (List.getElem?_eq_some_iff.mp e).1
        rwa [List.length_set] at this
      rw [List.getElem?_set_self hl] at e
      cases e
      rw [List.getElem?_set_self (by rw [r.len]; exact hl)]
      exact ⟨v, rfl, h⟩
    · rw [List.getElem?_set_ne (Ne.symm hj)] at e ⊢
      exact r.slot j s e
  · by_cases hj : j = i
    · subst hj
      have hl : j < ρ.length := by
        have := (List.getElem?_eq_some_iff.mp e1).1
        rwa [List.length_set] at this
      rw [List.getElem?_set_self hl] at e1
      cases e1; cases o1
    · by_cases hk : k = i
      · subst hk
        have hl : k < ρ.length := by
          have := (List.getElem?_eq_some_iff.mp e2).1
          rwa [List.length_set] at this
        rw [List.getElem?_set_self hl] at e2
        cases e2; cases o2
      · rw [List.getElem?_set_ne (Ne.symm hj)] at e1 g1
        rw [List.getElem?_set_ne (Ne.symm hk)] at e2 ⊢
        exact r.sep j k s t a hjk e1 e2 o1 o2 g1
end
end DL
/-! DLb: expressions. -/
namespace DL
open PySem PySem.Spec L2

/-! ### what a reading does, on data -/
def ImpE (K : PySem.W.Frag) (t : TE) (f : SE) : Prop := ∀ (ad : Option Addr) (B : Hp) (σ : L2.St) (H : Hp) (ρ : Rho) (c : Dr) (d : D) (c' : Dr) (Q : VK), Rl K ad B σ H ρ c → f ρ c = some (d, c') →
  (∀ v B' H', Fw ad c' B H B' H' → Dp K B' v d → Q v H') → t σ H Q
def ImpT (K : PySem.W.Frag) (t : TT) (f : SB) : Prop := ∀ (ad : Option Addr) (B : Hp) (σ : L2.St) (H : Hp) (ρ : Rho) (c : Dr) (b : Bool) (c' : Dr) (Q : Bool → Hp → Prop), Rl K ad B σ H ρ c → f ρ c = some (b, c') →
  (∀ B' H', Fw ad c' B H B' H' → Q b H') → t σ H Q
def ImpA (K : PySem.W.Frag) (t : TA) (f : SA) : Prop := ∀ (ad : Option Addr) (B : Hp) (σ : L2.St) (H : Hp) (ρ : Rho) (c : Dr) (ds : List D) (c' : Dr) (Q : List V → Hp → Prop), Rl K ad B σ H ρ c → f ρ c = some (ds, c') →
  (∀ vs B' H', Fw ad c' B H B' H' → DpAll K B' vs ds → Q vs H') → t σ H Q
/-- operations on values -/
def OpD (K : PySem.W.Frag) (r : R2) (g : D → D → Option D) : Prop := ∀ (B H : Hp) (x y : V) (d e z : D) (Q : VK), Same B H → Dp K B x d → Dp K B y e → g d e = some z → (∀ v B' H', Grow B H B' H' → Dp K B' v z → Q v H') → r x y H Q
def UnD (K : PySem.W.Frag) (r : V → Hp → VK → Prop) (g : D → Option D) : Prop := ∀ (B H : Hp) (x : V) (d z : D) (Q : VK), Same B H → Dp K B x d → g d = some z → (∀ v B' H', Grow B H B' H' → Dp K B' v z → Q v H') → r x H Q
def CallD (K : PySem.W.Frag) (r : List V → Hp → VK → Prop) (g : List D → Option D) : Prop := ∀ (B H : Hp) (xs : List V) (ds : List D) (z : D) (Q : VK), Same B H → DpAll K B xs ds → g ds = some z → (∀ v B' H', Grow B H B' H' → Dp K B' v z → Q v H') → r xs H Q

/-! ### names and constants -/
def sV (i : Nat) : SE := fun ρ c => match ρ[i]? with
  | some (.im d) => some (d, c)
  | _ => none
def sC (d : D) : SE := fun _ c => some (d, c)
theorem imp_v {K : PySem.W.Frag} (i : Nat) : ImpE K (tVar i) (sV i) := fun ad B σ H ρ c d c' Q r h q => by
  unfold sV at h
  split at h
  · rename_i d' e
    cases h
    obtain ⟨v, e1, e2⟩ := r.slot i _ e
    exact ⟨v, e1, q v B H r.fwRefl e2⟩
  · cases h
theorem imp_int {K : PySem.W.Frag} {i : Int} : ImpE K (tC (.int i)) (sC (.int i)) := fun ad B σ H ρ c d c' Q r h q => by
  cases h; exact q _ B H r.fwRefl (.int i)
theorem imp_bl {K : PySem.W.Frag} {i : Bool} : ImpE K (tC (.bl i)) (sC (.bool i)) := fun ad B σ H ρ c d c' Q r h q => by
  cases h; exact q _ B H r.fwRefl (.bl i)
theorem imp_non {K : PySem.W.Frag} : ImpE K (tC .non) (sC .none) := fun ad B σ H ρ c d c' Q r h q => by
  cases h; exact q _ B H r.fwRefl .non
theorem imp_str {K : PySem.W.Frag} {i : Str} : ImpE K (tC (.str i)) (sC (.str i)) := fun ad B σ H ρ c d c' Q r h q => by
  cases h; exact q _ B H r.fwRefl (.str i)

/-! ### operators -/
def sOp (g : D → D → Option D) (a b : SE) : SE := fun ρ c => (a ρ c).bind fun p => (b ρ p.2).bind fun q => (g p.1 q.1).bind fun z => some (z, q.2)
def sUn (g : D → Option D) (a : SE) : SE := fun ρ c => (a ρ c).bind fun p => (g p.1).bind fun z => some (z, p.2)
/-- the test of a value that is a bool -/
def sB (a : SE) : SB := fun ρ c => (a ρ c).bind fun p => match p.1 with
  | .bool b => some (b, p.2)
  | _ => none
theorem imp_op {K : PySem.W.Frag} {r : R2} {g : D → D → Option D} {ta tb : TE} {a b : SE} (hr : OpD K r g) (ha : ImpE K ta a) (hb : ImpE K tb b) : ImpE K (tOp r ta tb) (sOp g a b) := fun ad B σ H ρ c d c' Q R h q => by
  unfold sOp at h
  obtain ⟨⟨x, c1⟩, h1, h⟩ := Option.bind_eq_some_iff.mp h
  obtain ⟨⟨y, c2⟩, h2, h⟩ := Option.bind_eq_some_iff.mp h
  obtain ⟨z, h3, h⟩ := Option.bind_eq_some_iff.mp h
  cases h
  refine ha ad B σ H ρ c x c1 _ R h1 fun v B1 H1 f1 d1 => ?_
  refine hb ad B1 σ H1 ρ c1 y c2 _ (R.fw f1) h2 fun u B2 H2 f2 d2 => ?_
  refine hr B2 H2 v u x y _ _ f2.bh (dp_mono f2.bb _ _ d1) d2 h3 fun w B3 H3 g3 d3 => ?_
  exact q w B3 H3 (R.trans (R.trans f1 f2) (g3.fw f2.cell)) d3
theorem imp_un {K : PySem.W.Frag} {r : V → Hp → VK → Prop} {g : D → Option D} {ta : TE} {a : SE} (hr : UnD K r g) (ha : ImpE K ta a) : ImpE K (tUn r ta) (sUn g a) := fun ad B σ H ρ c d c' Q R h q => by
  unfold sUn at h
  obtain ⟨⟨x, c1⟩, h1, h⟩ := Option.bind_eq_some_iff.mp h
  obtain ⟨z, h3, h⟩ := Option.bind_eq_some_iff.mp h
  cases h
  refine ha ad B σ H ρ c x c1 _ R h1 fun v B1 H1 f1 d1 => ?_
  exact hr B1 H1 v x _ _ f1.bh d1 h3 fun w B3 H3 g3 d3 => q w B3 H3 (R.trans f1 (g3.fw f1.cell)) d3
theorem imp_test {K : PySem.W.Frag} {t : TE} {f : SE} (h : ImpE K t f) : ImpT K (tTest t) (sB f) := fun ad B σ H ρ c b c' Q R e q => by
  unfold sB at e
  obtain ⟨⟨x, c1⟩, h1, e⟩ := Option.bind_eq_some_iff.mp e
  refine h ad B σ H ρ c x c1 _ R h1 fun v B1 H1 f1 d1 => ?_
  cases x with
  | bool k =>
    cases e
    exact ⟨b, dp_bool d1, q B1 H1 f1⟩
  | _ => cases e
theorem imp_tB {K : PySem.W.Frag} {t : TE} {f : SE} (h : ImpE K t f) : ImpT K (tB t) (sB f) := imp_test h
/-- by truth -/
def truD : D → Option Bool
  | .none => some false
  | .bool b => some b
  | .int i => some (i != 0)
  | .list xs => some (!xs.isEmpty)
  | .tuple xs => some (!xs.isEmpty)
  | _ => none
def sTr (a : SE) : SB := fun ρ c => (a ρ c).bind fun p => (truD p.1).bind fun b => some (b, p.2)
theorem truD_ok {K : PySem.W.Frag} {B H : Hp} {x : V} {d : D} {b : Bool} (s : Same B H) (h : Dp K B x d) (e : truD d = some b) : TruV K x H b := by
  cases h with
  | non => cases e; exact rfl
  | bl k => cases e; exact rfl
  | int i => cases e; exact rfl
  | str x => cases e
  | lst h1 h2 =>
    cases e
    refine .inl ⟨_, SqL.of (s _ _ h1), ?_⟩
    rename_i xs ds
    have := dpAll_len h2
    cases xs <;> cases ds <;> simp_all
  | tup h1 h2 =>
    cases e
    refine .inr (.inl ⟨_, SqT.of (s _ _ h1), ?_⟩)
    rename_i xs ds
    have := dpAll_len h2
    cases xs <;> cases ds <;> simp_all
theorem imp_truth {K : PySem.W.Frag} {t : TE} {f : SE} (h : ImpE K t f) : ImpT K (fun σ H Q => t σ H fun x H' => ∃ k, TruV K x H' k ∧ Q k H') (sTr f) := fun ad B σ H ρ c b c' Q R e q => by
  unfold sTr at e
  obtain ⟨⟨x, c1⟩, h1, e⟩ := Option.bind_eq_some_iff.mp e
  obtain ⟨k, h2, e⟩ := Option.bind_eq_some_iff.mp e
  cases e
  exact h ad B σ H ρ c x c1 _ R h1 fun v B1 H1 f1 d1 => ⟨b, truD_ok f1.bh d1 h2, q B1 H1 f1⟩
/-! and, or, not -/
def sAnd (a b : SB) : SB := fun ρ c => (a ρ c).bind fun p => if p.1 = true then b ρ p.2 else some (false, p.2)
def sOr (a b : SB) : SB := fun ρ c => (a ρ c).bind fun p => if p.1 = true then some (true, p.2) else b ρ p.2
def sNot (a : SB) : SB := fun ρ c => (a ρ c).bind fun p => some (!p.1, p.2)
def sAndV (a b : SE) : SE := fun ρ c => (sB a ρ c).bind fun p => if p.1 = true then b ρ p.2 else some (.bool false, p.2)
def sOrV (a b : SE) : SE := fun ρ c => (sB a ρ c).bind fun p => if p.1 = true then some (.bool true, p.2) else b ρ p.2
def sNotV (a : SE) : SE := fun ρ c => (sB a ρ c).bind fun p => some (.bool (!p.1), p.2)
theorem imp_and {K : PySem.W.Frag} {t u : TT} {a b : SB} (ha : ImpT K t a) (hb : ImpT K u b) : ImpT K (tAnd t u) (sAnd a b) := fun ad B σ H ρ c z c' Q R e q => by
  unfold sAnd at e
  obtain ⟨⟨x, c1⟩, h1, e⟩ := Option.bind_eq_some_iff.mp e
  refine ha ad B σ H ρ c x c1 _ R h1 fun B1 H1 f1 => ?_
  cases x with
  | true => exact hb ad B1 σ H1 ρ c1 z c' Q (R.fw f1) e fun B2 H2 f2 => q B2 H2 (R.trans f1 f2)
  | false => cases e; exact q B1 H1 f1
theorem imp_or {K : PySem.W.Frag} {t u : TT} {a b : SB} (ha : ImpT K t a) (hb : ImpT K u b) : ImpT K (tOr t u) (sOr a b) := fun ad B σ H ρ c z c' Q R e q => by
  unfold sOr at e
  obtain ⟨⟨x, c1⟩, h1, e⟩ := Option.bind_eq_some_iff.mp e
  refine ha ad B σ H ρ c x c1 _ R h1 fun B1 H1 f1 => ?_
  cases x with
  | false => exact hb ad B1 σ H1 ρ c1 z c' Q (R.fw f1) e fun B2 H2 f2 => q B2 H2 (R.trans f1 f2)
  | true => cases e; exact q B1 H1 f1
theorem imp_not {K : PySem.W.Frag} {t : TT} {a : SB} (ha : ImpT K t a) : ImpT K (tNot t) (sNot a) := fun ad B σ H ρ c z c' Q R e q => by
  unfold sNot at e
  obtain ⟨⟨x, c1⟩, h1, e⟩ := Option.bind_eq_some_iff.mp e
  cases e
  exact ha ad B σ H ρ c x c1 _ R h1 fun B1 H1 f1 => q B1 H1 f1
theorem imp_sB {K : PySem.W.Frag} {t : TE} {a : SE} (ha : ImpE K t a) {ad : Option Addr} {B : Hp} {σ : L2.St} {H : Hp} {ρ : Rho} {c : Dr} {k : Bool} {c1 : Dr} {Q : VK} (R : Rl K ad B σ H ρ c) (h : sB a ρ c = some (k, c1))
    (q : ∀ B' H', Fw ad c1 B H B' H' → Q (.bl k) H') : t σ H Q := by
  unfold sB at h
  obtain ⟨⟨x, c2⟩, h1, h⟩ := Option.bind_eq_some_iff.mp h
  refine ha ad B σ H ρ c x c2 _ R h1 fun v B1 H1 f1 d1 => ?_
  cases x with
  | bool k =>
    cases h
    rw [dp_bool d1]
    exact q B1 H1 f1
  | _ => cases h
theorem imp_andV {K : PySem.W.Frag} {t u : TE} {a b : SE} (ha : ImpE K t a) (hb : ImpE K u b) : ImpE K (tAndV t u) (sAndV a b) := fun ad B σ H ρ c z c' Q R e q => by
  unfold sAndV at e
  obtain ⟨⟨x, c1⟩, h1, e⟩ := Option.bind_eq_some_iff.mp e
  refine imp_sB ha R h1 fun B1 H1 f1 => ⟨x, rfl, ?_⟩
  cases x with
  | true => exact hb ad B1 σ H1 ρ c1 z c' Q (R.fw f1) e fun v B2 H2 f2 => q v B2 H2 (R.trans f1 f2)
  | false => cases e; exact q _ B1 H1 f1 (.bl false)
theorem imp_orV {K : PySem.W.Frag} {t u : TE} {a b : SE} (ha : ImpE K t a) (hb : ImpE K u b) : ImpE K (tOrV t u) (sOrV a b) := fun ad B σ H ρ c z c' Q R e q => by
  unfold sOrV at e
  obtain ⟨⟨x, c1⟩, h1, e⟩ := Option.bind_eq_some_iff.mp e
  refine imp_sB ha R h1 fun B1 H1 f1 => ⟨x, rfl, ?_⟩
  cases x with
  | false => exact hb ad B1 σ H1 ρ c1 z c' Q (R.fw f1) e fun v B2 H2 f2 => q v B2 H2 (R.trans f1 f2)
  | true => cases e; exact q _ B1 H1 f1 (.bl true)
theorem imp_notV {K : PySem.W.Frag} {t : TE} {a : SE} (ha : ImpE K t a) : ImpE K (tNotV t) (sNotV a) := fun ad B σ H ρ c z c' Q R e q => by
  unfold sNotV at e
  obtain ⟨⟨x, c1⟩, h1, e⟩ := Option.bind_eq_some_iff.mp e
  cases e
  exact imp_sB ha R h1 fun B1 H1 f1 => ⟨x, rfl, q _ B1 H1 f1 (.bl _)⟩
def sIfE (t : SB) (a b : SE) : SE := fun ρ c => (t ρ c).bind fun p => if p.1 = true then a ρ p.2 else b ρ p.2
theorem imp_ifE {K : PySem.W.Frag} {t : TT} {u v : TE} {f : SB} {a b : SE} (ht : ImpT K t f) (ha : ImpE K u a) (hb : ImpE K v b) : ImpE K (tIf t u v) (sIfE f a b) := fun ad B σ H ρ c z c' Q R e q => by
  unfold sIfE at e
  obtain ⟨⟨x, c1⟩, h1, e⟩ := Option.bind_eq_some_iff.mp e
  refine ht ad B σ H ρ c x c1 _ R h1 fun B1 H1 f1 => ?_
  cases x with
  | true => exact ha ad B1 σ H1 ρ c1 z c' Q (R.fw f1) e fun v B2 H2 f2 => q v B2 H2 (R.trans f1 f2)
  | false => exact hb ad B1 σ H1 ρ c1 z c' Q (R.fw f1) e fun v B2 H2 f2 => q v B2 H2 (R.trans f1 f2)
/-! chains: a < b <= c -/
def sChain (g g' : D → D → Option D) (a b e : SE) : SE := fun ρ c => (a ρ c).bind fun p => (b ρ p.2).bind fun q => (g p.1 q.1).bind fun z => match z with
  | .bool true => (e ρ q.2).bind fun w => (g' q.1 w.1).bind fun z' => some (z', w.2)
  | .bool false => some (.bool false, q.2)
  | _ => none
theorem imp_chain {K : PySem.W.Frag} {r r' : R2} {g g' : D → D → Option D} {ta tb tc : TE} {a b e : SE} (hr : OpD K r g) (hr' : OpD K r' g') (ha : ImpE K ta a) (hb : ImpE K tb b) (he : ImpE K tc e) :
    ImpE K (tChain r r' ta tb tc) (sChain g g' a b e) := fun ad B σ H ρ c d c' Q R h q => by
  unfold sChain at h
  obtain ⟨⟨x, c1⟩, h1, h⟩ := Option.bind_eq_some_iff.mp h
  obtain ⟨⟨y, c2⟩, h2, h⟩ := Option.bind_eq_some_iff.mp h
  obtain ⟨z, h3, h⟩ := Option.bind_eq_some_iff.mp h
  refine ha ad B σ H ρ c x c1 _ R h1 fun v B1 H1 f1 d1 => ?_
  refine hb ad B1 σ H1 ρ c1 y c2 _ (R.fw f1) h2 fun u B2 H2 f2 d2 => ?_
  refine hr B2 H2 v u x y z _ f2.bh (dp_mono f2.bb _ _ d1) d2 h3 fun w B3 H3 g3 d3 => ?_
  have f3 : Fw ad c2 B H B3 H3 := R.trans (R.trans f1 f2) (g3.fw f2.cell)
  split at h
  · refine ⟨true, dp_bool d3, ?_⟩
    rw [if_pos rfl]
    obtain ⟨⟨x4, c4⟩, h4, h⟩ := Option.bind_eq_some_iff.mp h
    obtain ⟨z5, h5, h⟩ := Option.bind_eq_some_iff.mp h
    cases h
    refine he ad B3 σ H3 ρ c2 x4 c4 _ (R.fw f3) h4 fun v4 B4 H4 f4 d4 => ?_
    refine hr' B4 H4 u v4 y x4 _ _ f4.bh (dp_mono (g3.bb.trans f4.bb) _ _ d2) d4 h5 fun v5 B5 H5 g5 d5 => ?_
    exact q v5 B5 H5 (R.trans (R.trans f3 f4) (g5.fw f4.cell)) d5
  · cases h
    refine ⟨false, dp_bool d3, ?_⟩
    rw [if_neg Bool.false_ne_true]
    exact q _ B3 H3 f3 (.bl false)
  · cases h
/-! ### arguments, displays -/
def sNil : SA := fun _ c => some ([], c)
def sCons (a : SE) (b : SA) : SA := fun ρ c => (a ρ c).bind fun p => (b ρ p.2).bind fun q => some (p.1 :: q.1, q.2)
theorem imp_nil {K : PySem.W.Frag} : ImpA K tNil sNil := fun ad B σ H ρ c d c' Q r h q => by
  cases h; exact q _ B H r.fwRefl .nil
theorem imp_cons {K : PySem.W.Frag} {t : TE} {u : TA} {a : SE} {b : SA} (ha : ImpE K t a) (hb : ImpA K u b) : ImpA K (tCons t u) (sCons a b) := fun ad B σ H ρ c ds c' Q R h q => by
  unfold sCons at h
  obtain ⟨⟨x, c1⟩, h1, h⟩ := Option.bind_eq_some_iff.mp h
  obtain ⟨⟨y, c2⟩, h2, h⟩ := Option.bind_eq_some_iff.mp h
  cases h
  refine ha ad B σ H ρ c x c1 _ R h1 fun v B1 H1 f1 d1 => ?_
  refine hb ad B1 σ H1 ρ c1 y c2 _ (R.fw f1) h2 fun us B2 H2 f2 d2 => ?_
  exact q _ B2 H2 (R.trans f1 f2) (.cons (dp_mono f2.bb _ _ d1) d2)
theorem dp_newTup {K : PySem.W.Frag} {B : Hp} {p : Addr} {vs : List V} {ds : List D} (hp : B p = none) (h : DpAll K B vs ds) : Dp K (upd B p (.tup vs)) (.ref p) (.tuple ds) :=
  .tup upd_same (dpAll_mono (same_new hp) _ _ h)
theorem dp_newLst {K : PySem.W.Frag} {B : Hp} {p : Addr} {vs : List V} {ds : List D} (hp : B p = none) (h : DpAll K B vs ds) : Dp K (upd B p (.lst vs)) (.ref p) (.list ds) :=
  .lst upd_same (dpAll_mono (same_new hp) _ _ h)
/-- lengths that fit: a bound well below the model's line -/
def few (n : Nat) : Bool := decide (n ≤ 1000000)
theorem few_ok {n : Nat} (h : few n = true) : n ≤ 1000000 := of_decide_eq_true h
theorem few_line {n : Nat} (h : few n = true) : n ≤ sizeLine := Nat.le_trans (few_ok h) (by rw [sizeLine_eq]; decide)
theorem few_lt {n : Nat} (h : few n = true) : n < sizeLine := Nat.lt_of_le_of_lt (few_ok h) (by rw [sizeLine_eq]; decide)
def sTup (a : SA) : SE := fun ρ c => (a ρ c).bind fun p => if few p.1.length = true then some (.tuple p.1, p.2) else none
def sLst (a : SA) : SE := fun ρ c => (a ρ c).bind fun p => if few p.1.length = true then some (.list p.1, p.2) else none
theorem imp_tup {K : PySem.W.Frag} {t : TA} {a : SA} (ha : ImpA K t a) : ImpE K (tTup t) (sTup a) := fun ad B σ H ρ c d c' Q R h q => by
  unfold sTup at h
  obtain ⟨⟨x, c1⟩, h1, h⟩ := Option.bind_eq_some_iff.mp h
  split at h
  · rename_i hz
    cases h
    refine ha ad B σ H ρ c x _ _ R h1 fun vs B1 H1 f1 d1 => ⟨by rw [dpAll_len d1]; exact few_line hz, fun p np => ?_⟩
    exact q _ (upd B1 p (.tup vs)) _ (R.trans f1 ((Grow.new f1.bh np).fw f1.cell)) (dp_newTup (f1.bh.free np) d1)
  · cases h
theorem imp_lst {K : PySem.W.Frag} {t : TA} {a : SA} (ha : ImpA K t a) : ImpE K (tLst t) (sLst a) := fun ad B σ H ρ c d c' Q R h q => by
  unfold sLst at h
  obtain ⟨⟨x, c1⟩, h1, h⟩ := Option.bind_eq_some_iff.mp h
  split at h
  · rename_i hz
    cases h
    refine ha ad B σ H ρ c x _ _ R h1 fun vs B1 H1 f1 d1 => ⟨by rw [dpAll_len d1]; exact few_line hz, fun p np => ?_⟩
    exact q _ (upd B1 p (.lst vs)) _ (R.trans f1 ((Grow.new f1.bh np).fw f1.cell)) (dp_newLst (f1.bh.free np) d1)
  · cases h
/-! ### calls of built-ins -/
def sCB (g : List D → Option D) (a : SA) : SE := fun ρ c => (a ρ c).bind fun p => (g p.1).bind fun z => some (z, p.2)
theorem imp_cb {K : PySem.W.Frag} {r : List V → Hp → VK → Prop} {g : List D → Option D} {t : TA} {a : SA} (hr : CallD K r g) (ha : ImpA K t a) : ImpE K (tCB r t) (sCB g a) := fun ad B σ H ρ c d c' Q R h q => by
  unfold sCB at h
  obtain ⟨⟨x, c1⟩, h1, h⟩ := Option.bind_eq_some_iff.mp h
  obtain ⟨z, h2, h⟩ := Option.bind_eq_some_iff.mp h
  cases h
  refine ha ad B σ H ρ c x _ _ R h1 fun vs B1 H1 f1 d1 => ?_
  exact hr B1 H1 vs x _ _ f1.bh d1 h2 fun w B3 H3 g3 d3 => q w B3 H3 (R.trans f1 (g3.fw f1.cell)) d3
/-! ### slices -/
abbrev SO := Rho → Dr → Option (Option Int × Dr)
def ImpO (K : PySem.W.Frag) (t : TO) (f : SO) : Prop := ∀ (ad : Option Addr) (B : Hp) (σ : L2.St) (H : Hp) (ρ : Rho) (c : Dr) (o : Option Int) (c' : Dr) (Q : Option Int → Hp → Prop), Rl K ad B σ H ρ c → f ρ c = some (o, c') →
  (∀ B' H', Fw ad c' B H B' H' → Q o H') → t σ H Q
def sNoP : SO := fun _ c => some (none, c)
def sP (a : SE) : SO := fun ρ c => (a ρ c).bind fun p => match p.1 with
  | .int i => some (some i, p.2)
  | _ => none
theorem imp_noP {K : PySem.W.Frag} : ImpO K tNoPart sNoP := fun ad B σ H ρ c d c' Q r h q => by
  cases h; exact q B H r.fwRefl
theorem imp_p {K : PySem.W.Frag} {t : TE} {a : SE} (ha : ImpE K t a) : ImpO K (tPart t) (sP a) := fun ad B σ H ρ c d c' Q R h q => by
  unfold sP at h
  obtain ⟨⟨x, c1⟩, h1, h⟩ := Option.bind_eq_some_iff.mp h
  refine ha ad B σ H ρ c x c1 _ R h1 fun v B1 H1 f1 d1 => ?_
  cases x with
  | int i =>
    cases h
    exact ⟨i, dp_int d1, q B1 H1 f1⟩
  | _ => cases h
def SlD (K : PySem.W.Frag) (r : V → Option Int → Option Int → Hp → VK → Prop) (g : D → Option Int → Option Int → Option D) : Prop := ∀ (B H : Hp) (x : V) (d z : D) (lo hi : Option Int) (Q : VK), Same B H → Dp K B x d → g d lo hi = some z →
  (∀ v B' H', Grow B H B' H' → Dp K B' v z → Q v H') → r x lo hi H Q
def sSl (g : D → Option Int → Option Int → Option D) (a : SE) (l h : SO) : SE := fun ρ c => (a ρ c).bind fun p => (l ρ p.2).bind fun q => (h ρ q.2).bind fun r => (g p.1 q.1 r.1).bind fun z => some (z, r.2)
theorem imp_sl {K : PySem.W.Frag} {r : V → Option Int → Option Int → Hp → VK → Prop} {g : D → Option Int → Option Int → Option D} {te : TE} {tl th : TO} {a : SE} {l u : SO} (hr : SlD K r g) (ha : ImpE K te a) (hl : ImpO K tl l) (hu : ImpO K th u) :
    ImpE K (tSl r te tl th) (sSl g a l u) := fun ad B σ H ρ c d c' Q R h q => by
  unfold sSl at h
  obtain ⟨⟨x, c1⟩, h1, h⟩ := Option.bind_eq_some_iff.mp h
  obtain ⟨⟨y, c2⟩, h2, h⟩ := Option.bind_eq_some_iff.mp h
  obtain ⟨⟨y3, c3⟩, h3, h⟩ := Option.bind_eq_some_iff.mp h
  obtain ⟨z, h4, h⟩ := Option.bind_eq_some_iff.mp h
  cases h
  refine ha ad B σ H ρ c x c1 _ R h1 fun v B1 H1 f1 d1 => ?_
  refine hl ad B1 σ H1 ρ c1 y c2 _ (R.fw f1) h2 fun B2 H2 f2 => ?_
  have f12 := R.trans f1 f2
  refine hu ad B2 σ H2 ρ c2 y3 c3 _ (R.fw f12) h3 fun B3 H3 f3 => ?_
  exact hr B3 H3 v x _ _ _ _ f3.bh (dp_mono (f2.bb.trans f3.bb) _ _ d1) h4 fun w B4 H4 g4 d4 => q w B4 H4 (R.trans (R.trans f12 f3) (g4.fw f3.cell)) d4
end DL
/-! DLc: statements. -/
namespace DL
open PySem PySem.Spec L2

/-! ### what a statement does, on data -/
/-- a statement's way: what it owned may change, the rest stands; what it owns behind it was owned or is new -/
structure FwS (ad : Option Addr) (B : Hp) (σ : L2.St) (H : Hp) (ρ : Rho) (B' : Hp) (σ' : L2.St) (H' : Hp) (ρ' : Rho) : Prop where
  bb : Same B B'
  keep : ∀ a o, ad ≠ some a → H a = some o → ¬ Owned ρ σ a → H' a = some o
  fresh : ∀ a o, B' a = some o → B a = none → H a = none ∨ Owned ρ σ a
  own : ∀ a, Owned ρ' σ' a → Owned ρ σ a ∨ H a = none
/-- .. where the code is left -/
structure FwR (ad : Option Addr) (c' : Dr) (B : Hp) (σ : L2.St) (H : Hp) (ρ : Rho) (B' H' : Hp) : Prop where
  bb : Same B B'
  bh : Same B' H'
  cell : ∀ a, ad = some a → H' a = some (.lst [.int c'.1, .int c'.2])
  keep : ∀ a o, ad ≠ some a → H a = some o → ¬ Owned ρ σ a → H' a = some o
  fresh : ∀ a o, B' a = some o → B a = none → H a = none ∨ Owned ρ σ a
section
variable {K : PySem.W.Frag} {ad : Option Addr} {B B1 B2 B' H H1 H2 H' : Hp} {σ σ1 σ2 : L2.St} {ρ ρ1 ρ2 : Rho} {c c1 c2 : Dr}
theorem Rl.ownB (r : Rl K ad B σ H ρ c) {a : Addr} (h : Owned ρ σ a) : B a = none ∧ ad ≠ some a ∧ ∃ o, H a = some o := by
  obtain ⟨i, s, e1, e2, e3⟩ := h
  have q := r.slot i s e1
  cases s with
  | ol xs =>
    obtain ⟨b, vs, e, h1, h2, h3, _⟩ := q
    rw [e3] at e; cases e
    exact ⟨h2, h3, _, h1⟩
  | od xs =>
    obtain ⟨b, vs, e, h1, h2, h3, _⟩ := q
    rw [e3] at e; cases e
    exact ⟨h2, h3, _, h1⟩
  | _ => cases e2
theorem FwS.trans (r : Rl K ad B σ H ρ c) (r1 : Rl K ad B1 σ1 H1 ρ1 c1) (x : FwS ad B σ H ρ B1 σ1 H1 ρ1) (y : FwS ad B1 σ1 H1 ρ1 B2 σ2 H2 ρ2) : FwS ad B σ H ρ B2 σ2 H2 ρ2 where
  bb := x.bb.trans y.bb
  keep := fun a o n h no => y.keep a o n (x.keep a o n h no) fun z => by
    rcases x.own a z with q | q
    · exact no q
    · rw [h] at q; cases q
  fresh := fun a o h n => by
    cases q : B1 a with
    | some u => exact x.fresh a u q n
    | none =>
      rcases y.fresh a o h q with z | z
      · by_cases w : Owned ρ σ a
        · exact .inr w
        · cases e : H a with
          | none => exact .inl rfl
          | some u =>
            have na : ad ≠ some a := fun z' => by
              have := r1.cell a z'
              rw [z] at this; cases this
            rw [x.keep a u na e w] at z; cases z
      · rcases x.own a z with w | w
        · exact .inr w
        · exact .inl w
  own := fun a z => by
    rcases y.own a z with q | q
    · exact x.own a q
    · by_cases w : Owned ρ σ a
      · exact .inl w
      · cases e : H a with
        | none => exact .inr rfl
        | some u =>
          have na : ad ≠ some a := fun z' => by
            have := r1.cell a z'
            rw [q] at this; cases this
          rw [x.keep a u na e w] at q; cases q
theorem FwS.ret (r : Rl K ad B σ H ρ c) (r1 : Rl K ad B1 σ1 H1 ρ1 c1) (x : FwS ad B σ H ρ B1 σ1 H1 ρ1) (y : FwR ad c2 B1 σ1 H1 ρ1 B2 H2) : FwR ad c2 B σ H ρ B2 H2 where
  bb := x.bb.trans y.bb
  bh := y.bh
  cell := y.cell
  keep := fun a o n h no => y.keep a o n (x.keep a o n h no) fun z => by
    rcases x.own a z with q | q
    · exact no q
    · rw [h] at q; cases q
  fresh := fun a o h n => by
    cases q : B1 a with
    | some u => exact x.fresh a u q n
    | none =>
      rcases y.fresh a o h q with z | z
      · by_cases w : Owned ρ σ a
        · exact .inr w
        · cases e : H a with
          | none => exact .inl rfl
          | some u =>
            have na : ad ≠ some a := fun z' => by
              have := r1.cell a z'
              rw [z] at this; cases this
            rw [x.keep a u na e w] at z; cases z
      · rcases x.own a z with w | w
        · exact .inr w
        · exact .inl w
/-- an expression alone -/
theorem FwS.ofFw (r : Rl K ad B σ H ρ c) (x : Fw ad c1 B H B1 H1) : FwS ad B σ H ρ B1 σ H1 ρ :=
  ⟨x.bb, fun a o n h _ => x.keep a o n h, fun a o h n => .inl (x.fresh a o h n), fun a z => .inl z⟩
theorem FwR.ofFw (r : Rl K ad B σ H ρ c) (x : Fw ad c1 B H B1 H1) : FwR ad c1 B σ H ρ B1 H1 :=
  ⟨x.bb, x.bh, x.cell, fun a o n h _ => x.keep a o n h, fun a o h n => .inl (x.fresh a o h n)⟩
theorem owned_set_of {i : Nat} {o : Option V} {s : Sl} (hl : σ.length = ρ.length) (ho : owns s = false) {a : Addr} (h : Owned (ρ.set i s) (σ.set i o) a) : Owned ρ σ a := by
  obtain ⟨j, t, e1, e2, e3⟩ := h
  by_cases hj : j = i
  · subst hj
    have hx : j < ρ.length := by
      have := (List.getElem?_eq_some_iff.mp e1).1
      rwa [List.length_set] at this
    rw [List.getElem?_set_self hx] at e1
    cases e1
    rw [ho] at e2; cases e2
  · rw [List.getElem?_set_ne (Ne.symm hj)] at e1 e3
    exact ⟨j, t, e1, e2, e3⟩
theorem FwS.setNo (r : Rl K ad B σ H ρ c) {i : Nat} {o : Option V} {s : Sl} (ho : owns s = false) : FwS ad B σ H ρ B (σ.set i o) H (ρ.set i s) :=
  ⟨Same.refl B, fun _ _ _ h _ => h, fun a o h n => (by rw [h] at n; cases n), fun a z => .inl (owned_set_of r.len ho z)⟩
theorem FwS.refl (r : Rl K ad B σ H ρ c) : FwS ad B σ H ρ B σ H ρ :=
  ⟨Same.refl B, fun _ _ _ h _ => h, fun a o h n => (by rw [h] at n; cases n), fun a z => .inl z⟩
end

/-- where a statement's result leads -/
def Post (K : PySem.W.Frag) (D : Ends) (ad : Option Addr) (B : Hp) (σ : L2.St) (H : Hp) (ρ : Rho) : Fl × Rho × Dr → Prop
  | (.nx, ρ', c') => ∀ B' σ' H', Rl K ad B' σ' H' ρ' c' → FwS ad B σ H ρ B' σ' H' ρ' → D.nx σ' H'
  | (.bk, ρ', c') => ∀ B' σ' H', Rl K ad B' σ' H' ρ' c' → FwS ad B σ H ρ B' σ' H' ρ' → D.bk σ' H'
  | (.ct, ρ', c') => ∀ B' σ' H', Rl K ad B' σ' H' ρ' c' → FwS ad B σ H ρ B' σ' H' ρ' → D.ct σ' H'
  | (.rt d, ρ', c') => ∀ v B' σ' H', Rl K ad B' σ' H' ρ' c' → FwS ad B σ H ρ B' σ' H' ρ' → Dp K B' v d → D.rt v H'
def ImpS (K : PySem.W.Frag) (t : TS) (f : SS) : Prop := ∀ (ad : Option Addr) (B : Hp) (σ : L2.St) (H : Hp) (ρ : Rho) (c : Dr) (r : Fl × Rho × Dr) (D : Ends), Rl K ad B σ H ρ c → f ρ c = some r → Post K D ad B σ H ρ r → t D σ H
def ImpG (K : PySem.W.Frag) (t : TG) (g : D → Rho → Option Rho) : Prop := ∀ (ad : Option Addr) (B : Hp) (σ : L2.St) (H : Hp) (ρ : Rho) (c : Dr) (v : V) (d : D) (ρ' : Rho) (Q : L2.St → Hp → Prop), Rl K ad B σ H ρ c → Dp K B v d → g d ρ = some ρ' →
  (∀ σ', Rl K ad B σ' H ρ' c → FwS ad B σ H ρ B σ' H ρ' → Q σ' H) → t v σ H Q
def ImpGs (K : PySem.W.Frag) (t : TGs) (g : List D → Rho → Option Rho) : Prop := ∀ (ad : Option Addr) (B : Hp) (σ : L2.St) (H : Hp) (ρ : Rho) (c : Dr) (vs : List V) (ds : List D) (ρ' : Rho) (Q : L2.St → Hp → Prop), Rl K ad B σ H ρ c → DpAll K B vs ds → g ds ρ = some ρ' →
  (∀ σ', Rl K ad B σ' H ρ' c → FwS ad B σ H ρ B σ' H ρ' → Q σ' H) → t vs σ H Q
section
variable {K : PySem.W.Frag}
/-! targets -/
def qN (i : Nat) : D → Rho → Option Rho := fun d ρ => some (ρ.set i (.im d))
theorem imp_gN (i : Nat) : ImpG K (gName i) (qN i) := fun ad B σ H ρ c v d ρ' Q r hd h q => by
  cases h
  exact q _ (r.setIm hd) (FwS.setNo r rfl)
def qNil : List D → Rho → Option Rho := fun ds ρ => match ds with
  | [] => some ρ
  | _ => none
def qCons (g : D → Rho → Option Rho) (h : List D → Rho → Option Rho) : List D → Rho → Option Rho := fun ds ρ => match ds with
  | d :: ds => (g d ρ).bind fun ρ' => h ds ρ'
  | [] => none
theorem imp_gNil : ImpGs K gNil qNil := fun ad B σ H ρ c vs ds ρ' Q r hd h q => by
  cases ds with
  | nil =>
    cases hd
    cases h
    exact ⟨rfl, q _ r (FwS.refl r)⟩
  | cons => cases h
theorem imp_gCons {t : TG} {u : TGs} {g : D → Rho → Option Rho} {g' : List D → Rho → Option Rho} (h1 : ImpG K t g) (h2 : ImpGs K u g') : ImpGs K (gCons t u) (qCons g g') := fun ad B σ H ρ c vs ds ρ' Q r hd h q => by
  cases ds with
  | nil => cases h
  | cons d ds =>
    cases hd with
    | cons hv hr =>
      obtain ⟨ρ1, e1, e2⟩ := Option.bind_eq_some_iff.mp h
      exact ⟨_, _, rfl, h1 ad B σ H ρ c _ d ρ1 _ r hv e1 fun σ1 r1 f1 => h2 ad B σ1 H ρ1 c _ ds ρ' Q r1 hr e2 fun σ2 r2 f2 => q σ2 r2 (FwS.trans r r1 f1 f2)⟩
def qTup (g : List D → Rho → Option Rho) : D → Rho → Option Rho := fun d ρ => match d with
  | .tuple ds => g ds ρ
  | _ => none
theorem imp_gTup {n : Nat} {u : TGs} {g : List D → Rho → Option Rho} (h : ImpGs K u g) (hn : ∀ ds ρ ρ', g ds ρ = some ρ' → ds.length = n) : ImpG K (gTup K n u) (qTup g) := fun ad B σ H ρ c v d ρ' Q r hd e q => by
  cases d with
  | tuple ds =>
    obtain ⟨a, xs, rfl, h1, h2⟩ := dp_tuple hd
    exact ⟨a, xs, rfl, SqT.of (r.sub _ _ h1), (dpAll_len h2).trans (hn ds ρ ρ' e), h ad B σ H ρ c xs ds ρ' Q r h2 e q⟩
  | _ => cases e
theorem qNil_len : ∀ ds ρ ρ', qNil ds ρ = some ρ' → ds.length = 0 := fun ds ρ ρ' h => by
  cases ds with
  | nil => rfl
  | cons => cases h
theorem qCons_len {g : D → Rho → Option Rho} {g' : List D → Rho → Option Rho} {n : Nat} (h : ∀ ds ρ ρ', g' ds ρ = some ρ' → ds.length = n) : ∀ ds ρ ρ', qCons g g' ds ρ = some ρ' → ds.length = n + 1 := fun ds ρ ρ' e => by
  cases ds with
  | nil => cases e
  | cons d ds =>
    obtain ⟨ρ1, e1, e2⟩ := Option.bind_eq_some_iff.mp e
    rw [List.length_cons, h ds ρ1 ρ' e2]

/-! blocks -/
def sNext : SS := fun ρ c => some (.nx, ρ, c)
theorem imp_next : ImpS K tNext sNext := fun ad B σ H ρ c r D R h q => by
  cases h
  exact q B σ H R (FwS.refl R)
def sSeq (f g : SS) : SS := fun ρ c => (f ρ c).bind fun r => match r with
  | (.nx, ρ1, c1) => g ρ1 c1
  | r => some r
theorem Post.trans {D : Ends} {ad : Option Addr} {B B1 : Hp} {σ σ1 : L2.St} {H H1 : Hp} {ρ ρ1 : Rho} {c c1 : Dr} {r : Fl × Rho × Dr} (R : Rl K ad B σ H ρ c) (R1 : Rl K ad B1 σ1 H1 ρ1 c1) (x : FwS ad B σ H ρ B1 σ1 H1 ρ1)
    (h : Post K D ad B σ H ρ r) : Post K D ad B1 σ1 H1 ρ1 r := by
  obtain ⟨f, ρ', c'⟩ := r
  cases f with
  | nx => exact fun B' σ' H' r' y => h B' σ' H' r' (FwS.trans R R1 x y)
  | bk => exact fun B' σ' H' r' y => h B' σ' H' r' (FwS.trans R R1 x y)
  | ct => exact fun B' σ' H' r' y => h B' σ' H' r' (FwS.trans R R1 x y)
  | rt d => exact fun v B' σ' H' r' y e => h v B' σ' H' r' (FwS.trans R R1 x y) e
theorem imp_seq {t u : TS} {f g : SS} (h1 : ImpS K t f) (h2 : ImpS K u g) : ImpS K (tSeq t u) (sSeq f g) := fun ad B σ H ρ c r D R h q => by
  obtain ⟨r1, e1, e2⟩ := Option.bind_eq_some_iff.mp h
  refine h1 ad B σ H ρ c r1 _ R e1 ?_
  obtain ⟨f1, ρ1, c1⟩ := r1
  cases f1 with
  | nx => exact fun B' σ' H' r' x => h2 ad B' σ' H' ρ1 c1 r D r' e2 (Post.trans R r' x q)
  | bk => cases e2; exact q
  | ct => cases e2; exact q
  | rt d => cases e2; exact q
def sBrk : SS := fun ρ c => some (.bk, ρ, c)
def sCnt : SS := fun ρ c => some (.ct, ρ, c)
theorem imp_brk : ImpS K tBreak sBrk := fun ad B σ H ρ c r D R h q => by
  cases h
  exact q B σ H R (FwS.refl R)
theorem imp_cnt : ImpS K tCont sCnt := fun ad B σ H ρ c r D R h q => by
  cases h
  exact q B σ H R (FwS.refl R)
theorem imp_never {f : SS} (h : ∀ ρ c, f ρ c = none) : ImpS K tNever f := fun ad B σ H ρ c r D R e q => by
  rw [h] at e; cases e
def sNever : SS := fun _ _ => none
/-- a statement of an expression -/
def sDrop (a : SE) : SS := fun ρ c => (a ρ c).bind fun p => some (.nx, ρ, p.2)
theorem imp_drop {t : TE} {a : SE} (h : ImpE K t a) : ImpS K (tDrop t) (sDrop a) := fun ad B σ H ρ c r D R e q => by
  obtain ⟨⟨d, c1⟩, e1, e2⟩ := Option.bind_eq_some_iff.mp e
  cases e2
  exact h ad B σ H ρ c d c1 _ R e1 fun v B' H' x dv => q B' σ H' (R.fw x) (FwS.ofFw R x)
def sRet (a : SE) : SS := fun ρ c => (a ρ c).bind fun p => some (.rt p.1, ρ, p.2)
theorem imp_ret {t : TE} {a : SE} (h : ImpE K t a) : ImpS K (tRet t) (sRet a) := fun ad B σ H ρ c r D R e q => by
  obtain ⟨⟨d, c1⟩, e1, e2⟩ := Option.bind_eq_some_iff.mp e
  cases e2
  exact h ad B σ H ρ c d c1 _ R e1 fun v B' H' x dv => q v B' σ H' (R.fw x) (FwS.ofFw R x) dv
def sRetN : SS := fun ρ c => some (.rt .none, ρ, c)
theorem imp_retN : ImpS K tRetN sRetN := fun ad B σ H ρ c r D R e q => by
  cases e
  exact q _ B σ H R (FwS.refl R) .non
def sIfS (t : SB) (f g : SS) : SS := fun ρ c => (t ρ c).bind fun p => if p.1 = true then f ρ p.2 else g ρ p.2
theorem imp_if {t : TT} {u v : TS} {s : SB} {f g : SS} (ht : ImpT K t s) (h1 : ImpS K u f) (h2 : ImpS K v g) : ImpS K (tIfS t u v) (sIfS s f g) := fun ad B σ H ρ c r D R e q => by
  obtain ⟨⟨b, c1⟩, e1, e2⟩ := Option.bind_eq_some_iff.mp e
  refine ht ad B σ H ρ c b c1 _ R e1 fun B1 H1 x => ?_
  cases b with
  | true => exact h1 ad B1 σ H1 ρ c1 r D (R.fw x) e2 (Post.trans R (R.fw x) (FwS.ofFw R x) q)
  | false => exact h2 ad B1 σ H1 ρ c1 r D (R.fw x) e2 (Post.trans R (R.fw x) (FwS.ofFw R x) q)
/-! stores -/
def sAsg (a : SE) (g : D → Rho → Option Rho) : SS := fun ρ c => (a ρ c).bind fun p => (g p.1 ρ).bind fun ρ' => some (.nx, ρ', p.2)
theorem imp_asg {t : TE} {u : TG} {a : SE} {g : D → Rho → Option Rho} (h : ImpE K t a) (hg : ImpG K u g) : ImpS K (tAsg t u) (sAsg a g) := fun ad B σ H ρ c r D R e q => by
  obtain ⟨⟨d, c1⟩, e1, e2⟩ := Option.bind_eq_some_iff.mp e
  obtain ⟨ρ', e3, e4⟩ := Option.bind_eq_some_iff.mp e2
  cases e4
  refine h ad B σ H ρ c d c1 _ R e1 fun v B' H' x dv => ?_
  exact hg ad B' σ H' ρ c1 v d ρ' _ (R.fw x) dv e3 fun σ' r' y => q B' σ' H' r' (FwS.trans R (R.fw x) (FwS.ofFw R x) y)
def sPar (i j : Nat) (a : SA) : SS := fun ρ c => (a ρ c).bind fun p => match p.1 with
  | [x, y] => some (.nx, (ρ.set i (.im x)).set j (.im y), p.2)
  | _ => none
theorem imp_par {i j : Nat} {t : TA} {a : SA} (h : ImpA K t a) : ImpS K (tPar i j t) (sPar i j a) := fun ad B σ H ρ c r D R e q => by
  obtain ⟨⟨ds, c1⟩, e1, e2⟩ := Option.bind_eq_some_iff.mp e
  refine h ad B σ H ρ c ds c1 _ R e1 fun vs B' H' x dv => ?_
  split at e2
  · rename_i p z1 z2 e3
    have e3' : ds = [z1, z2] := e3
    subst e3'
    cases e2
    cases dv with
    | cons d1 r1 =>
      cases r1 with
      | cons d2 r2 =>
        cases r2
        have Ra := (R.fw x).setIm (i := i) d1
        refine ⟨_, _, rfl, q B' _ H' (Ra.setIm d2) ?_⟩
        exact FwS.trans R (R.fw x) (FwS.ofFw R x) (FwS.trans (R.fw x) Ra (FwS.setNo (R.fw x) rfl) (FwS.setNo Ra rfl))
  · cases e2
/-- x op= e at plain data -/
def sAug (g : D → D → Option D) (i : Nat) (a : SE) : SS := fun ρ c => match ρ[i]? with
  | some (.im d) => (a ρ c).bind fun p => (g d p.1).bind fun z => some (.nx, ρ.set i (.im z), p.2)
  | _ => none
theorem imp_aug {i : Nat} {t : TE} {ti : TIp} {a : SE} {g : D → D → Option D} (hi : OpD K ti g) (h : ImpE K t a) : ImpS K (tAug i t ti) (sAug g i a) := fun ad B σ H ρ c r D R e q => by
  unfold sAug at e
  split at e
  · rename_i d e0
    obtain ⟨v, g1, g2⟩ := R.slot i _ e0
    obtain ⟨⟨d1, c1⟩, e1, e2⟩ := Option.bind_eq_some_iff.mp e
    obtain ⟨z, e3, e4⟩ := Option.bind_eq_some_iff.mp e2
    cases e4
    refine ⟨v, g1, h ad B σ H ρ c d1 c1 _ R e1 fun u B1 H1 x du => ?_⟩
    refine hi B1 H1 v u d d1 z _ x.bh (dp_mono x.bb _ _ g2) du e3 fun w B2 H2 y dw => ?_
    have f2 : Fw ad c1 B H B2 H2 := R.trans x (y.fw x.cell)
    exact q B2 _ H2 ((R.fw f2).setIm dw) (FwS.trans R (R.fw f2) (FwS.ofFw R f2) (FwS.setNo (R.fw f2) rfl))
  · cases e

/-! ### lists of one's own -/
/-- an expression that makes a new list: its items -/
abbrev SL := Rho → Dr → Option (List D × Dr)
def ImpL (K : PySem.W.Frag) (t : TE) (f : SL) : Prop := ∀ (ad : Option Addr) (B : Hp) (σ : L2.St) (H : Hp) (ρ : Rho) (c : Dr) (ds : List D) (c' : Dr) (Q : VK), Rl K ad B σ H ρ c → f ρ c = some (ds, c') →
  (∀ a vs B' H' H1, Fw ad c' B H B' H1 → H1 a = none → H' = upd H1 a (.lst vs) → DpAll K B' vs ds → Q (.ref a) H') → t σ H Q
/-- as plain data -/
def sOfL (f : SL) : SE := fun ρ c => (f ρ c).bind fun p => some (.list p.1, p.2)
theorem imp_ofL {t : TE} {f : SL} (h : ImpL K t f) : ImpE K t (sOfL f) := fun ad B σ H ρ c d c' Q R e q => by
  obtain ⟨⟨ds, c1⟩, e1, e2⟩ := Option.bind_eq_some_iff.mp e
  cases e2
  refine h ad B σ H ρ c ds _ _ R e1 fun a vs B' H' H1 x n eH dv => ?_
  subst eH
  exact q _ (upd B' a (.lst vs)) _ (R.trans x ((Grow.new x.bh n).fw x.cell)) (dp_newLst (x.bh.free n) dv)
theorem Rl.setOl {ad : Option Addr} {B H : Hp} {σ : L2.St} {ρ : Rho} {c : Dr} (r : Rl K ad B σ H ρ c) {i : Nat} {a : Addr} {vs : List V} {ds : List D} (n : H a = none) (h : DpAll K B vs ds) :
    Rl K ad B (σ.set i (some (.ref a))) (upd H a (.lst vs)) (ρ.set i (.ol ds)) c ∧ FwS ad B σ H ρ B (σ.set i (some (.ref a))) (upd H a (.lst vs)) (ρ.set i (.ol ds)) := by
  have nb : B a = none := r.sub.free n
  have na : ad ≠ some a := fun e => by rw [r.cell a e] at n; cases n
  have sm : Same H (upd H a (.lst vs)) := same_new n
  have nown : ∀ b, Owned ρ σ b → b ≠ a := fun b ho e => by
    obtain ⟨_, _, o, q⟩ := r.ownB ho
    rw [e, n] at q; cases q
  have x : Fw ad c B H B (upd H a (.lst vs)) := ⟨Same.refl B, fun b o q => sm b o (r.sub b o q), fun b o _ q => sm b o q, fun b e => sm b _ (r.cell b e), fun b o q1 q2 => by rw [q1] at q2; cases q2⟩
  have R1 := r.fw x
  refine ⟨⟨R1.sub, R1.cell, R1.cfree, by rw [List.length_set, List.length_set]; exact r.len, fun j s e => ?_, fun j k s t b hjk e1 e2 o1 o2 g1 => ?_⟩, ⟨Same.refl B, fun b o _ q _ => sm b o q, fun b o q1 q2 => (by rw [q1] at q2; cases q2), fun b ho => ?_⟩⟩
  · by_cases hj : j = i
    · subst hj
      have hl : j < ρ.length := by
        have := (List.getElem?_eq_some_iff.mp e).1
        rwa [List.length_set] at this
      rw [List.getElem?_set_self hl] at e
      cases e
      rw [List.getElem?_set_self (by rw [r.len]; exact hl)]
      exact ⟨a, vs, rfl, upd_same, nb, na, h⟩
    · rw [List.getElem?_set_ne (Ne.symm hj)] at e ⊢
      exact R1.slot j s e
  · by_cases hj : j = i
    · subst hj
      have hl : j < ρ.length := by
        have := (List.getElem?_eq_some_iff.mp e1).1
        rwa [List.length_set] at this
      rw [List.getElem?_set_self (by rw [r.len]; exact hl)] at g1
      cases g1
      rw [List.getElem?_set_ne hjk] at e2 ⊢
      exact fun z => nown _ ⟨k, t, e2, o2, z⟩ rfl
    · rw [List.getElem?_set_ne (Ne.symm hj)] at e1 g1
      by_cases hk : k = i
      · subst hk
        have hl : k < ρ.length := by
          have := (List.getElem?_eq_some_iff.mp e2).1
          rwa [List.length_set] at this
        rw [List.getElem?_set_self (by rw [r.len]; exact hl)]
        exact fun z => by
          cases z
          exact nown _ ⟨j, s, e1, o1, g1⟩ rfl
      · rw [List.getElem?_set_ne (Ne.symm hk)] at e2 ⊢
        exact r.sep j k s t b hjk e1 e2 o1 o2 g1
  · obtain ⟨j, t, e1, e2, e3⟩ := ho
    by_cases hj : j = i
    · subst hj
      have hl : j < ρ.length := by
        have := (List.getElem?_eq_some_iff.mp e1).1
        rwa [List.length_set] at this
      rw [List.getElem?_set_self (by rw [r.len]; exact hl)] at e3
      cases e3
      exact .inr n
    · rw [List.getElem?_set_ne (Ne.symm hj)] at e1 e3
      exact .inl ⟨j, t, e1, e2, e3⟩
/-- x = a new list, to be changed -/
def sAsgL (f : SL) (i : Nat) : SS := fun ρ c => (f ρ c).bind fun p => some (.nx, ρ.set i (.ol p.1), p.2)
theorem imp_asgL {t : TE} {f : SL} (i : Nat) (h : ImpL K t f) : ImpS K (tAsg t (gName i)) (sAsgL f i) := fun ad B σ H ρ c r D R e q => by
  obtain ⟨⟨ds, c1⟩, e1, e2⟩ := Option.bind_eq_some_iff.mp e
  cases e2
  refine h ad B σ H ρ c ds c1 _ R e1 fun a vs B' H' H1 x n eH dv => ?_
  subst eH
  obtain ⟨r2, y⟩ := (R.fw x).setOl (i := i) n dv
  exact q B' _ _ r2 (FwS.trans R (R.fw x) (FwS.ofFw R x) y)
/-- the object at a slot of one's own is changed -/
theorem Rl.chOwn {ad : Option Addr} {B H : Hp} {σ : L2.St} {ρ : Rho} {c : Dr} (r : Rl K ad B σ H ρ c) {i : Nat} {a : Addr} {s s' : Sl} {o' : HO} (e : ρ[i]? = some s) (ho : owns s = true) (eσ : σ[i]? = some (some (.ref a)))
    (hs : SlOk K ad B (upd H a o') (some (some (.ref a))) s') : Rl K ad B σ (upd H a o') (ρ.set i s') c ∧ FwS ad B σ H ρ B σ (upd H a o') (ρ.set i s') := by
  obtain ⟨nb, na, o0, h0⟩ := r.ownB ⟨i, s, e, ho, eσ⟩
  have hl : i < ρ.length := (List.getElem?_eq_some_iff.mp e).1
  have other : ∀ (j : Nat) (t : Sl) (b : Addr), j ≠ i → ρ[j]? = some t → σ[j]? = some (some (.ref b)) → owns t = true → b ≠ a := fun j t b hj e1 e2 e3 z => by
    subst z
    exact r.sep i j s t b (Ne.symm hj) e e1 ho e3 eσ e2
  have own' : ∀ b, Owned (ρ.set i s') σ b → Owned ρ σ b := fun b ⟨j, t, e1, e2, e3⟩ => by
    by_cases hj : j = i
    · subst hj; exact ⟨j, s, e, ho, e3⟩
    · rw [List.getElem?_set_ne (Ne.symm hj)] at e1
      exact ⟨j, t, e1, e2, e3⟩
  refine ⟨⟨fun b o q => ?_, fun b q => ?_, r.cfree, by rw [List.length_set]; exact r.len, fun j t e1 => ?_, fun j k t t' b hjk e1 e2 o1 o2 g1 => ?_⟩, ⟨Same.refl B, fun b o n q no => ?_, fun b o q1 q2 => (by rw [q1] at q2; cases q2), fun b z => .inl (own' b z)⟩⟩
  · rw [upd_ne (fun z => by subst z; rw [nb] at q; cases q)]; exact r.sub b o q
  · rw [upd_ne (fun z => by subst z; exact na q)]; exact r.cell b q
  · by_cases hj : j = i
    · subst hj
      rw [List.getElem?_set_self hl] at e1
      cases e1
      rw [eσ]
      exact hs
    · rw [List.getElem?_set_ne (Ne.symm hj)] at e1
      have q := r.slot j t e1
      cases t with
      | un => trivial
      | im d => exact q
      | ol xs =>
        obtain ⟨b, us, g1, g2, g3, g4, g5⟩ := q
        exact ⟨b, us, g1, by rw [upd_ne (other j _ b hj e1 g1 rfl)]; exact g2, g3, g4, g5⟩
      | od xs =>
        obtain ⟨b, us, g1, g2, g3, g4, g5⟩ := q
        exact ⟨b, us, g1, by rw [upd_ne (other j _ b hj e1 g1 rfl)]; exact g2, g3, g4, g5⟩
      | fd xs =>
        obtain ⟨b, w, us, g1, g2, g3, g4, g5⟩ := q
        refine ⟨b, w, us, g1, ?_, g3, g4, g5⟩
        rw [upd_ne (fun z => ?_)]
        · exact g2
        · subst z
          have q2 := r.slot i s e
          cases s with
          | ol ys =>
            obtain ⟨b', us', k1, k2, _⟩ := q2
            rw [eσ] at k1; cases k1
            rw [g2] at k2; cases k2
          | od ys =>
            obtain ⟨b', us', k1, k2, _⟩ := q2
            rw [eσ] at k1; cases k1
            rw [g2] at k2; cases k2
          | _ => cases ho
      | op v => exact q
      | dr => exact q
  · have p1 : ∃ s', ρ[j]? = some s' ∧ owns s' = true := by
      by_cases hj : j = i
      · subst hj; exact ⟨s, e, ho⟩
      · rw [List.getElem?_set_ne (Ne.symm hj)] at e1; exact ⟨t, e1, o1⟩
    have p2 : ∃ s', ρ[k]? = some s' ∧ owns s' = true := by
      by_cases hk : k = i
      · subst hk; exact ⟨s, e, ho⟩
      · rw [List.getElem?_set_ne (Ne.symm hk)] at e2; exact ⟨t', e2, o2⟩
    obtain ⟨s1, f1, f2⟩ := p1
    obtain ⟨s2, f3, f4⟩ := p2
    exact r.sep j k s1 s2 b hjk f1 f3 f2 f4 g1
  · rw [upd_ne (fun z => by subst z; exact no ⟨i, s, e, ho, eσ⟩)]; exact q
theorem Rl.chOl {ad : Option Addr} {B H : Hp} {σ : L2.St} {ρ : Rho} {c : Dr} (r : Rl K ad B σ H ρ c) {i : Nat} {a : Addr} {s : Sl} {vs : List V} {ds : List D} (e : ρ[i]? = some s) (ho : owns s = true) (eσ : σ[i]? = some (some (.ref a)))
    (h : DpAll K B vs ds) : Rl K ad B σ (upd H a (.lst vs)) (ρ.set i (.ol ds)) c ∧ FwS ad B σ H ρ B σ (upd H a (.lst vs)) (ρ.set i (.ol ds)) := by
  obtain ⟨nb, na, _⟩ := r.ownB ⟨i, s, e, ho, eσ⟩
  exact r.chOwn e ho eσ ⟨a, vs, rfl, upd_same, nb, na, h⟩
/-- an object that nobody owns is put at a slot -/
theorem Rl.putOwn {ad : Option Addr} {B H : Hp} {σ : L2.St} {ρ : Rho} {c : Dr} (r : Rl K ad B σ H ρ c) {i : Nat} {a : Addr} {s : Sl} (no : ¬ Owned ρ σ a) (hs : SlOk K ad B H (some (some (.ref a))) s) :
    Rl K ad B (σ.set i (some (.ref a))) H (ρ.set i s) c ∧ ∀ b, Owned (ρ.set i s) (σ.set i (some (.ref a))) b → Owned ρ σ b ∨ b = a := by
  have p : ∀ {j : Nat} {t : Sl}, (ρ.set i s)[j]? = some t → (j = i ∧ t = s ∧ (σ.set i (some (.ref a)))[j]? = some (some (.ref a))) ∨ (j ≠ i ∧ ρ[j]? = some t ∧ (σ.set i (some (.ref a)))[j]? = σ[j]?) := fun {j t} e => by
    by_cases hj : j = i
    · subst hj
      have hl : j < ρ.length := by
        have := (List.getElem?_eq_some_iff.mp e).1
        rwa [List.length_set] at this
      rw [List.getElem?_set_self hl] at e
      cases e
      exact .inl ⟨rfl, rfl, List.getElem?_set_self (by rw [r.len]; exact hl)⟩
    · rw [List.getElem?_set_ne (Ne.symm hj)] at e
      exact .inr ⟨hj, e, List.getElem?_set_ne (Ne.symm hj)⟩
  refine ⟨⟨r.sub, r.cell, r.cfree, by rw [List.length_set, List.length_set]; exact r.len, fun j t e => ?_, fun j k t t' b hjk e1 e2 o1 o2 g => ?_⟩, fun b ⟨j, t, e1, e2, e3⟩ => ?_⟩
  · rcases p e with ⟨z1, z2, z3⟩ | ⟨z1, z2, z3⟩
    · rw [z3, z2]; exact hs
    · rw [z3]; exact r.slot j t z2
  · rcases p e1 with ⟨z1, z2, z3⟩ | ⟨z1, z2, z3⟩
    · rcases p e2 with ⟨y1, y2, y3⟩ | ⟨y1, y2, y3⟩
      · exact absurd (z1.trans y1.symm) hjk
      · rw [z3] at g
        cases g
        rw [y3]
        exact fun z => no ⟨k, t', y2, o2, z⟩
    · rcases p e2 with ⟨y1, y2, y3⟩ | ⟨y1, y2, y3⟩
      · rw [y3]
        rw [z3] at g
        exact fun z => by
          cases z
          exact no ⟨j, t, z2, o1, g⟩
      · rw [z3] at g
        rw [y3]
        exact r.sep j k t t' b hjk z2 y2 o1 o2 g
  · rcases p e1 with ⟨z1, z2, z3⟩ | ⟨z1, z2, z3⟩
    · rw [z3] at e3
      cases e3
      exact .inr rfl
    · rw [z3] at e3
      exact .inl ⟨j, t, z2, e2, e3⟩
/-! freeze, forget -/
theorem Rl.frz {ad : Option Addr} {B H : Hp} {σ : L2.St} {ρ : Rho} {c : Dr} (r : Rl K ad B σ H ρ c) {i : Nat} {ds : List D} (e : ρ[i]? = some (.ol ds)) : ∃ B', Rl K ad B' σ H (ρ.set i (.im (.list ds))) c ∧ FwS ad B σ H ρ B' σ H (ρ.set i (.im (.list ds))) ∧
    ∃ a vs, σ[i]? = some (some (.ref a)) ∧ B a = none ∧ B' = upd B a (.lst vs) ∧ H a = some (.lst vs) ∧ ad ≠ some a := by
  obtain ⟨a, vs, g1, g2, g3, g4, g5⟩ := r.slot i _ e
  have hl : i < ρ.length := (List.getElem?_eq_some_iff.mp e).1
  have bb : Same B (upd B a (.lst vs)) := same_new g3
  have oth : ∀ (j : Nat) (t : Sl) (b : Addr), j ≠ i → ρ[j]? = some t → owns t = true → σ[j]? = some (some (.ref b)) → b ≠ a := fun j t b hj e1 o1 g z => by
    subst z
    exact r.sep i j _ t b (Ne.symm hj) e e1 rfl o1 g1 g
  refine ⟨upd B a (.lst vs), ⟨fun b o q => ?_, r.cell, fun b q => ?_, by rw [List.length_set]; exact r.len, fun j t e1 => ?_, fun j k s t b hjk e1 e2 o1 o2 z => ?_⟩, ⟨bb, fun _ _ _ q _ => q, fun b o q n => ?_, fun b z => ?_⟩, a, vs, g1, g3, rfl, g2, g4⟩
  · by_cases hb : b = a
    · subst hb; rw [upd_same] at q; cases q; exact g2
    · rw [upd_ne hb] at q; exact r.sub b o q
  · rw [upd_ne (fun z => by subst z; exact g4 q)]; exact r.cfree b q
  · by_cases hj : j = i
    · subst hj
      rw [List.getElem?_set_self hl] at e1
      cases e1
      exact ⟨.ref a, g1, dp_newLst g3 g5⟩
    · rw [List.getElem?_set_ne (Ne.symm hj)] at e1
      have q := r.slot j t e1
      cases t with
      | un => trivial
      | im d => obtain ⟨v, k1, k2⟩ := q; exact ⟨v, k1, dp_mono bb _ _ k2⟩
      | ol xs =>
        obtain ⟨b, us, k1, k2, k3, k4, k5⟩ := q
        exact ⟨b, us, k1, k2, by rw [upd_ne (oth j _ b hj e1 rfl k1)]; exact k3, k4, dpAll_mono bb _ _ k5⟩
      | od xs =>
        obtain ⟨b, us, k1, k2, k3, k4, k5⟩ := q
        exact ⟨b, us, k1, k2, by rw [upd_ne (oth j _ b hj e1 rfl k1)]; exact k3, k4, kv_mono bb k5⟩
      | fd xs =>
        obtain ⟨b, w, us, k1, k2, k3, k4, k5⟩ := q
        refine ⟨b, w, us, k1, k2, ?_, k4, kv_mono bb k5⟩
        rw [upd_ne (fun z => by subst z; rw [g2] at k2; cases k2)]
        exact k3
      | op v => exact q
      | dr => exact q
  · have n1 : j ≠ i := fun z' => by
      subst z'
      rw [List.getElem?_set_self hl] at e1; cases e1; cases o1
    have n2 : k ≠ i := fun z' => by
      subst z'
      rw [List.getElem?_set_self hl] at e2; cases e2; cases o2
    rw [List.getElem?_set_ne (Ne.symm n1)] at e1
    rw [List.getElem?_set_ne (Ne.symm n2)] at e2
    exact r.sep j k s t b hjk e1 e2 o1 o2 z
  · by_cases hb : b = a
    · subst hb; exact .inr ⟨i, _, e, rfl, g1⟩
    · rw [upd_ne hb, n] at q; cases q
  · obtain ⟨j, t, e1, e2, e3⟩ := z
    have n1 : j ≠ i := fun z' => by
      subst z'
      rw [List.getElem?_set_self hl] at e1; cases e1; cases e2
    rw [List.getElem?_set_ne (Ne.symm n1)] at e1
    exact .inl ⟨j, t, e1, e2, e3⟩
/-- from here on the list at i is plain data -/
def sFrz (i : Nat) (f : SS) : SS := fun ρ c => match ρ[i]? with
  | some (.ol ds) => f (ρ.set i (.im (.list ds))) c
  | _ => none
theorem imp_frz {t : TS} {f : SS} (i : Nat) (h : ImpS K t f) : ImpS K t (sFrz i f) := fun ad B σ H ρ c r D R e q => by
  unfold sFrz at e
  split at e
  · rename_i ds e0
    obtain ⟨B', R', x, _⟩ := R.frz e0
    exact h ad B' σ H _ c r D R' e (Post.trans R R' x q)
  · cases e
theorem Rl.forget {ad : Option Addr} {B H : Hp} {σ : L2.St} {ρ : Rho} {c : Dr} (r : Rl K ad B σ H ρ c) (i : Nat) : Rl K ad B σ H (ρ.set i .un) c ∧ FwS ad B σ H ρ B σ H (ρ.set i .un) := by
  have p : ∀ {j : Nat} {s : Sl}, (ρ.set i .un)[j]? = some s → s = .un ∨ ρ[j]? = some s := fun {j s} e => by
    by_cases hj : j = i
    · subst hj
      have hl : j < ρ.length := by
        have := (List.getElem?_eq_some_iff.mp e).1
        rwa [List.length_set] at this
      rw [List.getElem?_set_self hl] at e
      cases e; exact .inl rfl
    · rw [List.getElem?_set_ne (Ne.symm hj)] at e; exact .inr e
  refine ⟨⟨r.sub, r.cell, r.cfree, by rw [List.length_set]; exact r.len, fun j s e => ?_, fun j k s t a hjk e1 e2 o1 o2 g => ?_⟩, ⟨Same.refl B, fun _ _ _ q _ => q, fun b o q n => (by rw [q] at n; cases n), fun a ⟨j, s, e1, e2, e3⟩ => ?_⟩⟩
  · rcases p e with z | z
    · subst z; trivial
    · exact r.slot j s z
  · rcases p e1 with z | z
    · subst z; cases o1
    · rcases p e2 with z' | z'
      · subst z'; cases o2
      · exact r.sep j k s t a hjk z z' o1 o2 g
  · rcases p e1 with z | z
    · subst z; cases e2
    · exact .inl ⟨j, s, z, e2, e3⟩
def unset (is : List Nat) (ρ : Rho) : Rho := is.foldl (fun ρ i => ρ.set i .un) ρ
theorem Rl.forgets {ad : Option Addr} {B H : Hp} {σ : L2.St} : ∀ (is : List Nat) {ρ : Rho} {c : Dr}, Rl K ad B σ H ρ c → Rl K ad B σ H (unset is ρ) c ∧ FwS ad B σ H ρ B σ H (unset is ρ)
  | [], ρ, c, r => ⟨r, FwS.refl r⟩
  | i :: is, ρ, c, r => by
    obtain ⟨r1, f1⟩ := r.forget i
    obtain ⟨r2, f2⟩ := Rl.forgets is r1
    exact ⟨r2, FwS.trans r r1 f1 f2⟩
/-- from here on these slots are not known -/
def sFgt (is : List Nat) (f : SS) : SS := fun ρ c => f (unset is ρ) c
theorem imp_fgt {t : TS} {f : SS} (is : List Nat) (h : ImpS K t f) : ImpS K t (sFgt is f) := fun ad B σ H ρ c r D R e q => by
  obtain ⟨R', x⟩ := R.forgets is
  exact h ad B σ H _ c r D R' e (Post.trans R R' x q)
end
end DL
/-! DLd: changes of one's own lists; loops; comprehensions; calls. -/
namespace DL
open PySem PySem.Spec L2
section
variable {K : PySem.W.Frag}

/-! ### a list of one's own -/
theorem dpAll_at {B : Hp} {ds : List D} {vs : List V} {i : Int} {d : D} (h : DpAll K B vs ds) (e : atI ds i = some d) : ∃ v, atI vs i = some v ∧ Dp K B v d := by
  unfold atI at e ⊢
  rw [dpAll_len h]
  obtain ⟨j, e1, e2⟩ := Option.bind_eq_some_iff.mp e
  rw [e1]
  exact dpAll_get h e2
/-- x.append(e) -/
def sApp (i : Nat) (a : SE) : SS := fun ρ c => match ρ[i]? with
  | some (.ol xs) => (a ρ c).bind fun p => if few xs.length = true then some (.nx, ρ.set i (.ol (xs ++ [p.1])), p.2) else none
  | _ => none
theorem imp_app {i : Nat} {t : TE} {a : SE} (h : ImpE K t a) : ImpS K (tDrop (tBM K "list" rAppend (tVar i) (tCons t tNil))) (sApp i a) := fun ad B σ H ρ c r D R e q => by
  unfold sApp at e
  split at e
  · rename_i xs e0
    obtain ⟨⟨d, c1⟩, e1, e2⟩ := Option.bind_eq_some_iff.mp e
    split at e2
    · rename_i hz
      cases e2
      obtain ⟨p, vs, g1, g2, g3, g4, g5⟩ := R.slot i _ e0
      refine ⟨.ref p, g1, .inl ⟨rfl, _, SqL.of g2⟩, h ad B σ H ρ c d c1 _ R e1 fun v B1 H1 x dv => ?_⟩
      have R1 := R.fw x
      have hp : H1 p = some (.lst vs) := x.keep p _ g4 g2
      obtain ⟨R2, y⟩ := R1.chOl e0 rfl g1 (dpAll_snoc (dpAll_mono x.bb _ _ g5) dv)
      refine ⟨p, vs, v, rfl, rfl, hp, by rw [dpAll_len g5]; exact few_lt hz, ?_⟩
      exact q B1 σ _ R2 (FwS.trans R R1 (FwS.ofFw R x) y)
    · cases e2
  · cases e
/-- x[k] = e -/
def sSetI (i : Nat) (k a : SE) : SS := fun ρ c => match ρ[i]? with
  | some (.ol xs) => (a ρ c).bind fun p => (k ρ p.2).bind fun q => match q.1 with
    | .int j => (ixN xs.length j).bind fun m => some (.nx, ρ.set i (.ol (xs.set m p.1)), q.2)
    | _ => none
  | _ => none
theorem imp_setI {i : Nat} {t u : TE} {k a : SE} (hk : ImpE K u k) (h : ImpE K t a) : ImpS K (tAsg t (gSub (tVar i) u rSetL)) (sSetI i k a) := fun ad B σ H ρ c r D R e q => by
  unfold sSetI at e
  split at e
  · rename_i xs e0
    obtain ⟨⟨d, c1⟩, e1, e2⟩ := Option.bind_eq_some_iff.mp e
    obtain ⟨⟨kd, c2⟩, e3, e4⟩ := Option.bind_eq_some_iff.mp e2
    cases kd with
    | int j =>
      obtain ⟨m, e5, e6⟩ := Option.bind_eq_some_iff.mp e4
      cases e6
      refine h ad B σ H ρ c d c1 _ R e1 fun v B1 H1 x dv => ?_
      have R1 := R.fw x
      obtain ⟨p, vs, g1, g2, g3, g4, g5⟩ := R1.slot i _ e0
      refine ⟨.ref p, g1, hk ad B1 σ H1 ρ c1 (.int j) c2 _ R1 e3 fun w B2 H2 y dw => ?_⟩
      have R2 := R1.fw y
      have hp : H2 p = some (.lst vs) := y.keep p _ g4 g2
      obtain ⟨R3, z⟩ := R2.chOl e0 rfl g1 (dpAll_set (dp_mono y.bb _ _ dv) m (dpAll_mono y.bb _ _ g5))
      refine ⟨p, vs, j, m, rfl, dp_int dw, hp, by rw [dpAll_len g5]; exact e5, ?_⟩
      exact q B2 σ _ R3 (FwS.trans R R2 (FwS.trans R R1 (FwS.ofFw R x) (FwS.ofFw R1 y)) z)
    | _ => cases e4
  · cases e
/-- x[k] op= e -/
theorem get_list {X : Cx} : PGet X (rIxL X.K) := fun pins s σ H o i ov iv Q I ro ri h => by
  obtain ⟨p, xs, k, v, rfl, rfl, hq, hv, q⟩ := h
  cases ro
  obtain ⟨t, rfl⟩ := ri
  obtain ⟨its, r, pl, hz⟩ := I.list hq
  obtain ⟨j, h1, h2, h3, h4, h5⟩ := atI_get hv
  obtain ⟨u, hu, ru⟩ := r.get h2
  have hl := r.length
  have hn := line63
  have fin : EP X pins σ Q u s := ⟨v, H, I, ru, q⟩
  by_cases h0 : 0 ≤ k
  · have hj : k.toNat = j := by
      rw [seqIndex_of h0 h5] at h1
      exact Option.some.inj h1
    exact PySem.wpAny_getItem_list pl.isList h0 (by omega) (by rw [hj]; simpa using hu) fin
  · have hj : (k + (its.toArray.size : Int)).toNat = j := by
      rw [seqIndex_neg (by omega) h4] at h1
      rw [List.size_toArray, ← hl]
      exact Option.some.inj h1
    exact PySem.wpAny_getItem_list_neg pl.isList (by omega) (by rw [List.size_toArray] <;> omega) (by omega) (by rw [hj]; simpa using hu) fin
def sAugI (g : D → D → Option D) (i : Nat) (k a : SE) : SS := fun ρ c => match ρ[i]? with
  | some (.ol xs) => (k ρ c).bind fun q => match q.1 with
    | .int j => (ixN xs.length j).bind fun m => (xs[m]?).bind fun x0 => (a ρ q.2).bind fun p => (g x0 p.1).bind fun z => some (.nx, ρ.set i (.ol (xs.set m z)), p.2)
    | _ => none
  | _ => none
theorem imp_augI {i : Nat} {t u : TE} {k a : SE} {tip : TIp} {g : D → D → Option D} (hg : OpD K tip g) (hk : ImpE K u k) (h : ImpE K t a) : ImpS K (tAugS (tVar i) u t (rIxL K) tip rSetL) (sAugI g i k a) := fun ad B σ H ρ c r D R e q => by
  unfold sAugI at e
  split at e
  · rename_i xs e0
    obtain ⟨⟨kd, c1⟩, e1, e2⟩ := Option.bind_eq_some_iff.mp e
    cases kd with
    | int j =>
      obtain ⟨m, e3, e4⟩ := Option.bind_eq_some_iff.mp e2
      obtain ⟨x0, e5, e6⟩ := Option.bind_eq_some_iff.mp e4
      obtain ⟨⟨d, c2⟩, e7, e8⟩ := Option.bind_eq_some_iff.mp e6
      obtain ⟨z, e9, e10⟩ := Option.bind_eq_some_iff.mp e8
      cases e10
      obtain ⟨p, vs, g1, g2, g3, g4, g5⟩ := R.slot i _ e0
      refine ⟨.ref p, g1, hk ad B σ H ρ c (.int j) c1 _ R e1 fun w B1 H1 x dw => ?_⟩
      have R1 := R.fw x
      have hp1 : H1 p = some (.lst vs) := x.keep p _ g4 g2
      have g51 := dpAll_mono x.bb _ _ g5
      obtain ⟨v0, a1, a2⟩ := dpAll_at (i := j) g51 (by unfold atI; rw [e3]; exact e5)
      refine ⟨p, vs, j, v0, rfl, dp_int dw, SqL.of hp1, a1, ?_⟩
      refine h ad B1 σ H1 ρ c1 d c2 _ R1 e7 fun v B2 H2 y dv => ?_
      have f2 : Fw ad c2 B H B2 H2 := R.trans x y
      refine hg B2 H2 v0 v x0 d z _ y.bh (dp_mono y.bb _ _ a2) dv e9 fun zv B3 H3 gz dz => ?_
      have f3 : Fw ad c2 B H B3 H3 := R.trans f2 (gz.fw y.cell)
      have R3 := R.fw f3
      have hp3 : H3 p = some (.lst vs) := f3.keep p _ g4 g2
      obtain ⟨R4, w4⟩ := R3.chOl e0 rfl g1 (dpAll_set dz m (dpAll_mono f3.bb _ _ g5))
      refine ⟨p, vs, j, m, rfl, dp_int dw, hp3, by rw [dpAll_len g5]; exact e3, ?_⟩
      exact q B3 σ _ R4 (FwS.trans R R3 (FwS.ofFw R f3) w4)
    | _ => cases e2
  · cases e
/-- x[k] of a list of one's own -/
def sIxO (i : Nat) (k : SE) : SE := fun ρ c => match ρ[i]? with
  | some (.ol xs) => (k ρ c).bind fun q => match q.1 with
    | .int j => (atI xs j).bind fun x0 => some (x0, q.2)
    | _ => none
  | _ => none
theorem imp_ixO {i : Nat} {u : TE} {k : SE} (hk : ImpE K u k) : ImpE K (tOp (rIx K) (tVar i) u) (sIxO i k) := fun ad B σ H ρ c d c' Q R e q => by
  unfold sIxO at e
  split at e
  · rename_i xs e0
    obtain ⟨⟨kd, c1⟩, e1, e2⟩ := Option.bind_eq_some_iff.mp e
    cases kd with
    | int j =>
      obtain ⟨x0, e3, e4⟩ := Option.bind_eq_some_iff.mp e2
      cases e4
      obtain ⟨p, vs, g1, g2, g3, g4, g5⟩ := R.slot i _ e0
      refine ⟨.ref p, g1, hk ad B σ H ρ c (.int j) _ _ R e1 fun w B1 H1 x dw => ?_⟩
      have hp1 : H1 p = some (.lst vs) := x.keep p _ g4 g2
      obtain ⟨v0, a1, a2⟩ := dpAll_at (i := j) (dpAll_mono x.bb _ _ g5) e3
      exact .inl ⟨p, vs, j, v0, rfl, dp_int dw, SqL.of hp1, a1, q v0 B1 H1 x a2⟩
    | _ => cases e2
  · cases e
/-- an answer that is a scalar, reckoned as if the list at i were plain data -/
def sFl (i : Nat) (f : SE) : SE := fun ρ c => match ρ[i]? with
  | some (.ol xs) => (f (ρ.set i (.im (.list xs))) c).bind fun p => if flatD p.1 = true then some p else none
  | _ => none
def sFlT (i : Nat) (f : SB) : SB := fun ρ c => match ρ[i]? with
  | some (.ol xs) => f (ρ.set i (.im (.list xs))) c
  | _ => none
theorem Fw.cut {ad : Option Addr} {c' : Dr} {B H B' H' : Hp} {a : Addr} {vs : List V} (n : B a = none) (hH : H a = some (.lst vs)) (x : Fw ad c' (upd B a (.lst vs)) H B' H') : Fw ad c' B H (fun b => if b = a then none else B' b) H' where
  bb := fun b o q => by
    have hb : b ≠ a := fun z => by subst z; rw [n] at q; cases q
    show (if b = a then none else B' b) = some o
    rw [if_neg hb]
    exact x.bb b o (by rw [upd_ne hb]; exact q)
  bh := fun b o q => by
    have q' : (if b = a then none else B' b) = some o := q
    by_cases hb : b = a
    · rw [if_pos hb] at q'; cases q'
    · rw [if_neg hb] at q'; exact x.bh b o q'
  keep := x.keep
  cell := x.cell
  fresh := fun b o q m => by
    have q' : (if b = a then none else B' b) = some o := q
    by_cases hb : b = a
    · rw [if_pos hb] at q'; cases q'
    · rw [if_neg hb] at q'
      exact x.fresh b o q' (by rw [upd_ne hb]; exact m)
theorem imp_fl {t : TE} {f : SE} (i : Nat) (h : ImpE K t f) : ImpE K t (sFl i f) := fun ad B σ H ρ c d c' Q R e q => by
  unfold sFl at e
  split at e
  · rename_i ds e0
    obtain ⟨⟨d1, c1⟩, e1, e2⟩ := Option.bind_eq_some_iff.mp e
    split at e2
    · rename_i hf
      cases e2
      obtain ⟨B', R', x, a, vs, k1, k2, k3, k4, k5⟩ := R.frz e0
      subst k3
      refine h ad _ σ H _ c d c' Q R' e1 fun v B2 H2 y dv => ?_
      exact q v _ H2 (y.cut k2 k4) (dp_flat hf dv)
    · cases e2
  · cases e
theorem imp_flT {t : TT} {f : SB} (i : Nat) (h : ImpT K t f) : ImpT K t (sFlT i f) := fun ad B σ H ρ c d c' Q R e q => by
  unfold sFlT at e
  split at e
  · rename_i ds e0
    obtain ⟨B', R', x, a, vs, k1, k2, k3, k4, k5⟩ := R.frz e0
    subst k3
    exact h ad _ σ H _ c d c' Q R' e fun B2 H2 y => q _ H2 (y.cut k2 k4)
  · cases e

/-! ### what is walked -/
def Walk (K : PySem.W.Frag) (J : It) (B : Hp) (xs : List D) : Prop := ∀ (B2 H2 : Hp), Same B B2 → Same B2 H2 → J.stop xs.length H2 ∧ ∀ i d, xs[i]? = some d → J.go i H2 ∧ ∀ x H3, J.yld i H2 x H3 → ∃ B3, Grow B2 H2 B3 H3 ∧ Dp K B3 x d
theorem Walk.mono {J : It} {B B' : Hp} {xs : List D} (h : Walk K J B xs) (e : Same B B') : Walk K J B' xs := fun B2 H2 a b => h B2 H2 (e.trans a) b
abbrev SI := Rho → Dr → Option (List D × Dr)
def ImpI (K : PySem.W.Frag) (wi : TI) (f : SI) : Prop := ∀ (ad : Option Addr) (B : Hp) (σ : L2.St) (H : Hp) (ρ : Rho) (c : Dr) (xs : List D) (c' : Dr) (R : It → Hp → Prop), Rl K ad B σ H ρ c → f ρ c = some (xs, c') →
  (∀ J B' H', Fw ad c' B H B' H' → Walk K J B' xs → R J H') → wi σ H R
def sItL (a : SE) : SI := fun ρ c => (a ρ c).bind fun p => match p.1 with
  | .list xs => some (xs, p.2)
  | _ => none
def sItT (a : SE) : SI := fun ρ c => (a ρ c).bind fun p => match p.1 with
  | .tuple xs => some (xs, p.2)
  | _ => none
theorem imp_iL {t : TE} {a : SE} (h : ImpE K t a) : ImpI K (iList K t) (sItL a) := fun ad B σ H ρ c xs c' Q R e q => by
  obtain ⟨⟨d, c1⟩, e1, e2⟩ := Option.bind_eq_some_iff.mp e
  refine h ad B σ H ρ c d c1 _ R e1 fun v B' H' x dv => ?_
  cases d with
  | list ds =>
    cases e2
    obtain ⟨a, vs, rfl, s1, s2⟩ := dp_list dv
    refine ⟨a, rfl, ⟨vs, SqL.of (x.bh _ _ s1)⟩, q _ B' H' x fun B2 H2 m1 m2 => ⟨⟨vs, SqL.of (m2 _ _ (m1 _ _ s1)), Nat.le_of_eq (dpAll_len s2)⟩, fun i d hd => ?_⟩⟩
    obtain ⟨v, g1, g2⟩ := dpAll_get s2 hd
    refine ⟨⟨vs, v, SqL.of (m2 _ _ (m1 _ _ s1)), g1⟩, fun y H3 hy => ?_⟩
    obtain ⟨rfl, hy⟩ := hy
    have e3 := (hy vs (SqL.of (m2 _ _ (m1 _ _ s1)))).symm.trans g1
    cases e3
    exact ⟨B2, Grow.refl m2, dp_mono m1 _ _ g2⟩
  | _ => cases e2
theorem imp_iT {t : TE} {a : SE} (h : ImpE K t a) : ImpI K (iTup K t) (sItT a) := fun ad B σ H ρ c xs c' Q R e q => by
  obtain ⟨⟨d, c1⟩, e1, e2⟩ := Option.bind_eq_some_iff.mp e
  refine h ad B σ H ρ c d c1 _ R e1 fun v B' H' x dv => ?_
  cases d with
  | tuple ds =>
    cases e2
    obtain ⟨a, vs, rfl, s1, s2⟩ := dp_tuple dv
    refine ⟨a, rfl, ⟨vs, SqT.of (x.bh _ _ s1)⟩, q _ B' H' x fun B2 H2 m1 m2 => ⟨⟨vs, SqT.of (m2 _ _ (m1 _ _ s1)), Nat.le_of_eq (dpAll_len s2)⟩, fun i d hd => ?_⟩⟩
    obtain ⟨v, g1, g2⟩ := dpAll_get s2 hd
    refine ⟨⟨vs, v, SqT.of (m2 _ _ (m1 _ _ s1)), g1⟩, fun y H3 hy => ?_⟩
    obtain ⟨rfl, hy⟩ := hy
    have e3 := (hy vs (SqT.of (m2 _ _ (m1 _ _ s1)))).symm.trans g1
    cases e3
    exact ⟨B2, Grow.refl m2, dp_mono m1 _ _ g2⟩
  | _ => cases e2
/-- lo, lo + 1, .. -/
def rngL (lo : Int) (n : Nat) : List D := (List.range n).map fun i => .int (lo + (i : Nat))
theorem rngL_get {lo : Int} {n i : Nat} {d : D} (h : (rngL lo n)[i]? = some d) : i < n ∧ d = .int (lo + i) := by
  unfold rngL at h
  rw [List.getElem?_map] at h
  obtain ⟨k, e1, e2⟩ := Option.map_eq_some_iff.mp h
  obtain ⟨e3, e4⟩ := List.getElem?_eq_some_iff.mp e1
  rw [List.length_range] at e3
  rw [List.getElem_range] at e4
  subst e4
  exact ⟨e3, e2.symm⟩
theorem rngL_len (lo : Int) (n : Nat) : (rngL lo n).length = n := by unfold rngL; rw [List.length_map, List.length_range]
theorem walk_rng (B : Hp) (lo : Int) (n : Nat) : Walk K (Itr lo n) B (rngL lo n) := fun B2 H2 m1 m2 => ⟨Nat.le_of_eq (rngL_len lo n).symm, fun i d hd => by
  obtain ⟨h1, rfl⟩ := rngL_get hd
  refine ⟨h1, fun y H3 hy => ?_⟩
  obtain ⟨rfl, rfl⟩ := hy
  exact ⟨B2, Grow.refl m2, .int _⟩⟩
def okR (i : Int) : Bool := decide (i.natAbs ≤ 1000000)
theorem okR_to {i : Int} (h : okR i = true) : -(2 ^ 62) ≤ i ∧ i < 2 ^ 62 := by
  have := of_decide_eq_true h
  constructor <;> omega
def sItR (a : SA) : SI := fun ρ c => (a ρ c).bind fun p => match p.1 with
  | [.int j] => if okR j = true then some (rngL 0 j.toNat, p.2) else none
  | [.int i, .int j] => if okR i = true ∧ okR j = true then some (rngL i (j - i).toNat, p.2) else none
  | _ => none
theorem imp_iR1 {t : TA} {a : SA} (h : ImpA K t a) : ImpI K (iRng1 t) (fun ρ c => (a ρ c).bind fun p => match p.1 with
  | [.int j] => if okR j = true then some (rngL 0 j.toNat, p.2) else none
  | _ => none) := fun ad B σ H ρ c xs c' Q R e q => by
  obtain ⟨⟨ds, c1⟩, e1, e2⟩ := Option.bind_eq_some_iff.mp e
  refine h ad B σ H ρ c ds c1 _ R e1 fun vs B' H' x dv => ?_
  split at e2
  · rename_i p j e3
    have e3' : ds = [.int j] := e3
    subst e3'
    split at e2
    · rename_i hj
      cases e2
      cases dv with
      | cons d1 r1 =>
        cases r1
        obtain ⟨h1, h2⟩ := okR_to hj
        exact ⟨j, by rw [dp_int d1], h1, h2, q _ B' H' x (walk_rng B' 0 _)⟩
    · cases e2
  · cases e2
def sR1 (a : SA) : SI := fun ρ c => (a ρ c).bind fun p => match p.1 with
  | [.int j] => if okR j = true then some (rngL 0 j.toNat, p.2) else none
  | _ => none
def sR2 (a : SA) : SI := fun ρ c => (a ρ c).bind fun p => match p.1 with
  | [.int i, .int j] => if okR i = true ∧ okR j = true then some (rngL i (j - i).toNat, p.2) else none
  | _ => none
theorem imp_r1 {t : TA} {a : SA} (h : ImpA K t a) : ImpI K (iRng1 t) (sR1 a) := imp_iR1 h
theorem imp_r2 {t : TA} {a : SA} (h : ImpA K t a) : ImpI K (iRng2 t) (sR2 a) := fun ad B σ H ρ c xs c' Q R e q => by
  obtain ⟨⟨ds, c1⟩, e1, e2⟩ := Option.bind_eq_some_iff.mp e
  refine h ad B σ H ρ c ds c1 _ R e1 fun vs B' H' x dv => ?_
  split at e2
  · rename_i p i j e3
    have e3' : ds = [.int i, .int j] := e3
    subst e3'
    split at e2
    · rename_i hj
      cases e2
      cases dv with
      | cons d1 r1 =>
        cases r1 with
        | cons d2 r2 =>
          cases r2
          obtain ⟨h1, h2⟩ := okR_to hj.1
          obtain ⟨h3, h4⟩ := okR_to hj.2
          exact ⟨i, j, by rw [dp_int d1, dp_int d2], ⟨h1, h2, h3, h4⟩, q _ B' H' x (walk_rng B' i _)⟩
    · cases e2
  · cases e2

/-! ### for -/
def forS (g : D → Rho → Option Rho) (body : SS) : List D → SS
  | [] => fun ρ c => some (.nx, ρ, c)
  | x :: xs => fun ρ c => (g x ρ).bind fun ρ1 => (body ρ1 c).bind fun r => match r with
    | (.nx, ρ2, c2) => forS g body xs ρ2 c2
    | (.ct, ρ2, c2) => forS g body xs ρ2 c2
    | (.bk, ρ2, c2) => some (.nx, ρ2, c2)
    | (.rt d, ρ2, c2) => some (.rt d, ρ2, c2)
def sFor (f : SI) (g : D → Rho → Option Rho) (body : SS) : SS := fun ρ c => (f ρ c).bind fun p => forS g body p.1 ρ p.2
/-- the loop, by what its iterator does at each turn -/
theorem for_core {J : It} {tg : TG} {tb : TS} {g : D → Rho → Option Rho} {body : SS} (hg : ImpG K tg g) (hb : ImpS K tb body) {ad : Option Addr} {B1 : Hp} {σ : L2.St} {H1 : Hp} {ρ : Rho} {c1 : Dr} {xs : List D} {r : Fl × Rho × Dr} {D : Ends} (R1 : Rl K ad B1 σ H1 ρ c1)
    (wk : ∀ (B' : Hp) (σ' : L2.St) (H' : Hp) (ρ' : Rho), FwS ad B1 σ H1 ρ B' σ' H' ρ' → Same B' H' → J.stop xs.length H' ∧ ∀ (i : Nat) (d : PyData), xs[i]? = some d → J.go i H' ∧ ∀ x H3, J.yld i H' x H3 → ∃ B3, Grow B' H' B3 H3 ∧ Dp K B3 x d)
    (e2 : forS g body xs ρ c1 = some r) (q1 : Post K D ad B1 σ H1 ρ r) : ∃ W : Nat → Nat → L2.St → Hp → Prop, (∃ m, W 0 m σ H1) ∧ ∀ i m σ H, W i m σ H →
  (J.stop i H ∧ D.nx σ H) ∨ (J.go i H ∧ ∃ N : L2.St → Hp → Prop, (∀ σ' H', N σ' H' → ∃ m', m' < m ∧ W (i + 1) m' σ' H') ∧ ∀ x H', J.yld i H x H' → tg x σ H' fun σ2 H2 => tb { D with nx := N, ct := N, bk := D.nx } σ2 H2) := by
  refine ⟨fun i m σ' H' => m = xs.length - i ∧ i ≤ xs.length ∧ ∃ B' ρ' c', Rl K ad B' σ' H' ρ' c' ∧ FwS ad B1 σ H1 ρ B' σ' H' ρ' ∧ forS g body (xs.drop i) ρ' c' = some r,
    ⟨xs.length, by rw [Nat.sub_zero], Nat.zero_le _, B1, ρ, c1, R1, FwS.refl R1, by rw [List.drop_zero]; exact e2⟩, fun i m σ' H' hW => ?_⟩
  obtain ⟨rfl, hi, B', ρ', c', R', y, e'⟩ := hW
  obtain ⟨w1, w2⟩ := wk B' σ' H' ρ' y R'.sub
  by_cases hlt : i < xs.length
  · have hx : xs[i]? = some xs[i] := List.getElem?_eq_getElem hlt
    obtain ⟨go, yl⟩ := w2 i _ hx
    rw [List.drop_eq_getElem_cons hlt] at e'
    obtain ⟨ρ2, e3, e4⟩ := Option.bind_eq_some_iff.mp e'
    obtain ⟨r3, e5, e6⟩ := Option.bind_eq_some_iff.mp e4
    refine .inr ⟨go, fun σ2 H2 => xs.length - (i + 1) = xs.length - (i + 1) ∧ i + 1 ≤ xs.length ∧ ∃ B2 ρ2 c2, Rl K ad B2 σ2 H2 ρ2 c2 ∧ FwS ad B1 σ H1 ρ B2 σ2 H2 ρ2 ∧ forS g body (xs.drop (i + 1)) ρ2 c2 = some r, fun σ2 H2 h2 => ⟨xs.length - (i + 1), by omega, h2⟩, fun v H3 hv => ?_⟩
    obtain ⟨B3, gr, dv⟩ := yl v H3 hv
    have x3 : Fw ad c' B' H' B3 H3 := gr.fw R'.cell
    have R3 := R'.fw x3
    refine hg ad B3 σ' H3 ρ' c' v _ ρ2 _ R3 dv e3 fun σ4 R4 y4 => ?_
    have y04 : FwS ad B1 σ H1 ρ B3 σ4 H3 ρ2 := FwS.trans R1 R3 (FwS.trans R1 R' y (FwS.ofFw R' x3)) y4
    refine hb ad B3 σ4 H3 ρ2 c' r3 _ R4 e5 ?_
    obtain ⟨f3, ρ5, c5⟩ := r3
    cases f3 with
    | nx => exact fun B5 σ5 H5 R5 y5 => ⟨rfl, hlt, B5, ρ5, c5, R5, FwS.trans R1 R4 y04 y5, e6⟩
    | ct => exact fun B5 σ5 H5 R5 y5 => ⟨rfl, hlt, B5, ρ5, c5, R5, FwS.trans R1 R4 y04 y5, e6⟩
    | bk =>
      cases e6
      exact fun B5 σ5 H5 R5 y5 => q1 B5 σ5 H5 R5 (FwS.trans R1 R4 y04 y5)
    | rt d =>
      cases e6
      exact fun w B5 σ5 H5 R5 y5 dw => q1 w B5 σ5 H5 R5 (FwS.trans R1 R4 y04 y5) dw
  · have ei : i = xs.length := by omega
    subst ei
    rw [List.drop_length] at e'
    cases e'
    exact .inl ⟨w1, q1 B' σ' H' R' y⟩
theorem imp_for {wi : TI} {tg : TG} {tb : TS} {f : SI} {g : D → Rho → Option Rho} {body : SS} (hf : ImpI K wi f) (hg : ImpG K tg g) (hb : ImpS K tb body) : ImpS K (tFor wi tg tb) (sFor f g body) := fun ad B σ H ρ c r D R e q => by
  obtain ⟨⟨xs, c1⟩, e1, e2⟩ := Option.bind_eq_some_iff.mp e
  refine hf ad B σ H ρ c xs c1 _ R e1 fun J B1 H1 x wk => ?_
  have R1 := R.fw x
  exact for_core hg hb R1 (fun B' σ' H' ρ' y s => wk B' H' y.bb s) e2 (Post.trans R R1 (FwS.ofFw R x) q)
/-! ### while, with fuel -/
def whileS (t : SB) (body : SS) : Nat → SS
  | 0 => fun _ _ => none
  | n + 1 => fun ρ c => (t ρ c).bind fun p => if p.1 = true then (body ρ p.2).bind fun r => match r with
    | (.nx, ρ2, c2) => whileS t body n ρ2 c2
    | (.ct, ρ2, c2) => whileS t body n ρ2 c2
    | (.bk, ρ2, c2) => some (.nx, ρ2, c2)
    | (.rt d, ρ2, c2) => some (.rt d, ρ2, c2)
    else some (.nx, ρ, p.2)
theorem imp_while {tt : TT} {tb : TS} {t : SB} {body : SS} (n : Nat) (ht : ImpT K tt t) (hb : ImpS K tb body) : ImpS K (tWhile tt tb) (whileS t body n) := fun ad B σ H ρ c r D R e q => by
  refine ⟨fun m σ' H' => ∃ B' ρ' c', Rl K ad B' σ' H' ρ' c' ∧ FwS ad B σ H ρ B' σ' H' ρ' ∧ whileS t body m ρ' c' = some r, ⟨n, B, ρ, c, R, FwS.refl R, e⟩, fun m σ' H' hW => ?_⟩
  obtain ⟨B', ρ', c', R', y, e'⟩ := hW
  cases m with
  | zero => cases e'
  | succ m =>
    obtain ⟨⟨b, c1⟩, e1, e2⟩ := Option.bind_eq_some_iff.mp e'
    refine ht ad B' σ' H' ρ' c' b c1 _ R' e1 fun B1 H1 x => ?_
    have R1 := R'.fw x
    have y1 := FwS.trans R R' y (FwS.ofFw R' x)
    cases b with
    | true =>
      obtain ⟨r3, e5, e6⟩ := Option.bind_eq_some_iff.mp e2
      rw [if_pos rfl]
      refine ⟨fun σ2 H2 => ∃ B' ρ' c', Rl K ad B' σ2 H2 ρ' c' ∧ FwS ad B σ H ρ B' σ2 H2 ρ' ∧ whileS t body m ρ' c' = some r, fun σ2 H2 h2 => ⟨m, Nat.lt_succ_self m, h2⟩, ?_⟩
      refine hb ad B1 σ' H1 ρ' c1 r3 _ R1 e5 ?_
      obtain ⟨f3, ρ5, c5⟩ := r3
      cases f3 with
      | nx => exact fun B5 σ5 H5 R5 y5 => ⟨B5, ρ5, c5, R5, FwS.trans R R1 y1 y5, e6⟩
      | ct => exact fun B5 σ5 H5 R5 y5 => ⟨B5, ρ5, c5, R5, FwS.trans R R1 y1 y5, e6⟩
      | bk =>
        cases e6
        exact fun B5 σ5 H5 R5 y5 => q B5 σ5 H5 R5 (FwS.trans R R1 y1 y5)
      | rt d =>
        cases e6
        exact fun w B5 σ5 H5 R5 y5 dw => q w B5 σ5 H5 R5 (FwS.trans R R1 y1 y5) dw
    | false =>
      rw [if_neg Bool.false_ne_true]
      have e2' : some (Fl.nx, ρ', c1) = some r := e2
      cases e2'
      exact q B1 σ' H1 R1 y1
end
end DL
/-! DLe: comprehensions; calls; what a def promises. -/
namespace DL
open PySem PySem.Spec L2
section
variable {K : PySem.W.Frag}
/-! ### comprehensions -/
/-- a target that stores in these slots alone -/
def OnlyG (t : TG) (vs : List Nat) : Prop := ∀ v σ H Q, t v σ H Q → t v σ H fun σ' H' => Q σ' H' ∧ wipe σ' vs = wipe σ vs
def MonoG (t : TG) : Prop := ∀ v σ H Q Q', (∀ σ' H', Q σ' H' → Q' σ' H') → t v σ H Q → t v σ H Q'
def MonoGs (t : TGs) : Prop := ∀ v σ H Q Q', (∀ σ' H', Q σ' H' → Q' σ' H') → t v σ H Q → t v σ H Q'
def OnlyGs (t : TGs) (vs : List Nat) : Prop := ∀ ws σ H Q, t ws σ H Q → t ws σ H fun σ' H' => Q σ' H' ∧ wipe σ' vs = wipe σ vs
theorem wipe_set {σ : L2.St} {i : Nat} {o : Option V} : ∀ {vs : List Nat}, i ∈ vs → wipe (σ.set i o) vs = wipe σ vs
  | [], h => by cases h
  | v :: vs, h => by
    show (wipe (σ.set i o) vs).set v none = (wipe σ vs).set v none
    have comm : ∀ ws : List Nat, i ∉ ws → wipe (σ.set i o) ws = (wipe σ ws).set i o := by
      intro ws
      induction ws with
      | nil => intro _; rfl
      | cons u us ih =>
        intro hn
        show (wipe (σ.set i o) us).set u none = ((wipe σ us).set u none).set i o
        rw [ih (fun z => hn (List.mem_cons_of_mem _ z)), List.set_comm _ _ (fun z => hn (by rw [z]; exact List.mem_cons_self))]
    by_cases hm : i ∈ vs
    · rw [wipe_set hm]
    · have hi : i = v := by
        rcases List.mem_cons.mp h with z | z
        · exact z
        · exact absurd z hm
      rw [comm vs hm, hi, List.set_set]
theorem only_N {i : Nat} {vs : List Nat} (h : i ∈ vs) : OnlyG (gName i) vs := fun v σ H Q q => ⟨q, wipe_set h⟩
theorem only_nil {vs : List Nat} : OnlyGs gNil vs := fun ws σ H Q q => ⟨q.1, q.2, rfl⟩
theorem only_cons {t : TG} {u : TGs} {vs : List Nat} (h1 : OnlyG t vs) (h2 : OnlyGs u vs) (mono : MonoG t) (mono2 : MonoGs u) : OnlyGs (gCons t u) vs := fun ws σ H Q q => by
  obtain ⟨v, r, e, q⟩ := q
  refine ⟨v, r, e, ?_⟩
  refine mono v σ H _ _ (fun σ' H' z => ?_) (h1 v σ H _ q)
  exact mono2 r σ' H' _ _ (fun σ2 H2 y => ⟨y.1, y.2.trans z.2⟩) (h2 r σ' H' Q z.1)
theorem mono_N {i : Nat} : MonoG (gName i) := fun v σ H Q Q' h q => h _ _ q
theorem mono_nil : MonoGs gNil := fun v σ H Q Q' h q => ⟨q.1, h _ _ q.2⟩
theorem mono_cons {t : TG} {u : TGs} (m1 : MonoG t) (m2 : MonoGs u) : MonoGs (gCons t u) := fun v σ H Q Q' h q => by
  obtain ⟨x, r, e, q⟩ := q
  exact ⟨x, r, e, m1 _ _ _ _ _ (fun σ' H' z => m2 _ _ _ _ _ h z) q⟩
theorem mono_tup {n : Nat} {u : TGs} (m2 : MonoGs u) : MonoG (gTup K n u) := fun v σ H Q Q' h q => by
  obtain ⟨a, xs, e, e2, e3, q⟩ := q
  exact ⟨a, xs, e, e2, e3, m2 _ _ _ _ _ h q⟩
theorem only_tup {n : Nat} {u : TGs} {vs : List Nat} (h : OnlyGs u vs) : OnlyG (gTup K n u) vs := fun v σ H Q q => by
  obtain ⟨a, xs, e, e2, e3, q⟩ := q
  exact ⟨a, xs, e, e2, e3, h xs σ H Q q⟩
/-- slots forgotten, as a comprehension does -/
def wipeR (ρ : Rho) : List Nat → Rho
  | [] => ρ
  | v :: vs => (wipeR ρ vs).set v .un
theorem Rl.setUn {ad : Option Addr} {B H : Hp} {σ : L2.St} {ρ : Rho} {c : Dr} (r : Rl K ad B σ H ρ c) (i : Nat) (o : Option V) : Rl K ad B (σ.set i o) H (ρ.set i .un) c := by
  have p : ∀ {j : Nat} {s : Sl}, (ρ.set i .un)[j]? = some s → s = .un ∨ (ρ[j]? = some s ∧ (σ.set i o)[j]? = σ[j]?) := fun {j s} e => by
    by_cases hj : j = i
    · subst hj
      have hl : j < ρ.length := by
        have := (List.getElem?_eq_some_iff.mp e).1
        rwa [List.length_set] at this
      rw [List.getElem?_set_self hl] at e
      cases e; exact .inl rfl
    · rw [List.getElem?_set_ne (Ne.symm hj)] at e
      exact .inr ⟨e, List.getElem?_set_ne (Ne.symm hj)⟩
  refine ⟨r.sub, r.cell, r.cfree, by rw [List.length_set, List.length_set]; exact r.len, fun j s e => ?_, fun j k s t a hjk e1 e2 o1 o2 g => ?_⟩
  · rcases p e with z | ⟨z, z2⟩
    · subst z; trivial
    · rw [z2]; exact r.slot j s z
  · rcases p e1 with z | ⟨z, z2⟩
    · subst z; cases o1
    · rcases p e2 with z' | ⟨z', z2'⟩
      · subst z'; cases o2
      · rw [z2] at g
        rw [z2']
        exact r.sep j k s t a hjk z z' o1 o2 g
theorem Rl.wiped {ad : Option Addr} {B H : Hp} {σ : L2.St} {ρ : Rho} {c : Dr} (r : Rl K ad B σ H ρ c) : ∀ vs : List Nat, Rl K ad B (wipe σ vs) H (wipeR ρ vs) c
  | [] => r
  | v :: vs => (r.wiped vs).setUn v none
def lcS (g : D → Rho → Option Rho) (t : SB) (e : SE) (ρ0 : Rho) : List D → Dr → Option (List D × Dr)
  | [], c => some ([], c)
  | x :: xs, c => (g x ρ0).bind fun ρ1 => (t ρ1 c).bind fun p => if p.1 = true then (e ρ1 p.2).bind fun q => (lcS g t e ρ0 xs q.2).bind fun r => some (q.1 :: r.1, r.2) else lcS g t e ρ0 xs p.2
def sLc (f : SI) (g : D → Rho → Option Rho) (t : SB) (e : SE) (vs : List Nat) : SL := fun ρ c => (f ρ c).bind fun p => if few p.1.length = true then lcS g t e (wipeR ρ vs) p.1 p.2 else none
def sYes : SB := fun _ c => some (true, c)
theorem imp_yes : ImpT K tYes sYes := fun ad B σ H ρ c b c' Q R e q => by
  cases e
  exact q B H R.fwRefl
def delH (H : Hp) (a : Addr) : Hp := fun b => if b = a then none else H b
theorem delH_self {H : Hp} {a : Addr} : delH H a a = none := if_pos rfl
theorem delH_ne {H : Hp} {a b : Addr} (h : b ≠ a) : delH H a b = H b := if_neg h
theorem upd_delH {H : Hp} {a : Addr} {o : HO} (h : H a = some o) : upd (delH H a) a o = H := by
  funext b
  by_cases e : b = a
  · subst e; rw [upd_same, h]
  · rw [upd_ne e, delH_ne e]
theorem delH_upd {H : Hp} {a : Addr} {o : HO} (h : H a = none) : delH (upd H a o) a = H := by
  funext b
  by_cases e : b = a
  · subst e; rw [delH_self, h]
  · rw [delH_ne e, upd_ne e]
theorem same_delH {H : Hp} {a : Addr} : Same (delH H a) H := fun b o q => by
  by_cases e : b = a
  · subst e; rw [delH_self] at q; cases q
  · rw [delH_ne e] at q; exact q
theorem Rl.up {ad : Option Addr} {B H H' : Hp} {σ : L2.St} {ρ : Rho} {c : Dr} (r : Rl K ad B σ H ρ c) (s : Same H H') : Rl K ad B σ H' ρ c := by
  refine ⟨r.sub.trans s, fun a e => s a _ (r.cell a e), r.cfree, r.len, fun i t e => ?_, r.sep⟩
  have q := r.slot i t e
  cases t with
  | un => trivial
  | im d => exact q
  | ol xs => obtain ⟨a, vs, e1, e2, e3⟩ := q; exact ⟨a, vs, e1, s a _ e2, e3⟩
  | od xs => obtain ⟨a, vs, e1, e2, e3⟩ := q; exact ⟨a, vs, e1, s a _ e2, e3⟩
  | fd xs => obtain ⟨a, w, vs, e1, e2, e3⟩ := q; exact ⟨a, w, vs, e1, s a _ e2, e3⟩
  | op v => exact q
  | dr => exact q
theorem Fw.del {ad : Option Addr} {c' : Dr} {B H B' H' : Hp} {a : Addr} {o : HO} (x : Fw ad c' B H B' H') (n : B a = none) (h : H a = some o) (na : ad ≠ some a) : Fw ad c' B (delH H a) B' (delH H' a) where
  bb := x.bb
  bh := fun b u q => by
    have hb : b ≠ a := fun z => by
      subst z
      have := x.fresh b u q n
      rw [h] at this; cases this
    rw [delH_ne hb]; exact x.bh b u q
  keep := fun b u m q => by
    have hb : b ≠ a := fun z => by subst z; rw [delH_self] at q; cases q
    rw [delH_ne hb] at q ⊢; exact x.keep b u m q
  cell := fun b e => by
    have hb : b ≠ a := fun z => by subst z; exact na e
    rw [delH_ne hb]; exact x.cell b e
  fresh := fun b u q m => by
    have hb : b ≠ a := fun z => by
      subst z
      have := x.fresh b u q n
      rw [h] at this; cases this
    rw [delH_ne hb]; exact x.fresh b u q m
theorem imp_lc {wi : TI} {tg : TG} {tt : TT} {te : TE} {f : SI} {g : D → Rho → Option Rho} {t : SB} {e : SE} {vs : List Nat} (hf : ImpI K wi f) (hg : ImpG K tg g) (ho : OnlyG tg vs) (mn : MonoG tg) (ht : ImpT K tt t) (he : ImpE K te e) :
    ImpL K (tLc wi tg tt te vs) (sLc f g t e vs) := fun ad B σ H ρ c ds c' Q R h q => by
  obtain ⟨⟨xs, c1⟩, e1, e2⟩ := Option.bind_eq_some_iff.mp h
  have e2 : (if few xs.length = true then lcS g t e (wipeR ρ vs) xs c1 else none) = some (ds, c') := e2
  by_cases hz : few xs.length = true
  · rw [if_pos hz] at e2
    have hz' := few_ok hz
    refine hf ad B σ H ρ c xs c1 _ R e1 fun J B1 H1 x wk => ?_
    intro Dl hD
    have R1 := R.fw x
    have nB1 : B1 Dl = none := R1.sub.free hD
    have nad : ad ≠ some Dl := fun z => by rw [R1.cell Dl z] at hD; cases hD
    refine ⟨fun i m H' => m = xs.length - i ∧ i ≤ xs.length ∧ ∃ (B' : Hp) (cc : Dr) (acc : List V) (done rest : List D), H' Dl = some (.lst acc) ∧ DpAll K B' acc done ∧ acc.length ≤ i ∧ Fw ad cc B1 H1 B' (delH H' Dl) ∧ lcS g t e (wipeR ρ vs) (xs.drop i) cc = some (rest, c') ∧ ds = done ++ rest,
      ⟨xs.length, by rw [Nat.sub_zero], Nat.zero_le _, B1, c1, [], [], ds, upd_same, .nil, Nat.zero_le _, by rw [delH_upd hD]; exact R1.fwRefl, by rw [List.drop_zero]; exact e2, rfl⟩, fun i m H' hW => ?_⟩
    obtain ⟨rfl, hi, B', cc, acc, done, rest, hDl, dacc, hacc, y, e', ed⟩ := hW
    have nB' : B' Dl = none := by
      cases z : B' Dl with
      | none => rfl
      | some u =>
        have := y.bh Dl u z
        rw [delH_self] at this; cases this
    have sB' : Same B' H' := y.bh.trans same_delH
    obtain ⟨w1, w2⟩ := wk B' H' y.bb sB'
    by_cases hlt : i < xs.length
    · obtain ⟨go, yl⟩ := w2 i _ (List.getElem?_eq_getElem hlt)
      rw [List.drop_eq_getElem_cons hlt] at e'
      obtain ⟨ρ2, e3, e4⟩ := Option.bind_eq_some_iff.mp e'
      obtain ⟨⟨b, c3⟩, e5, e6⟩ := Option.bind_eq_some_iff.mp e4
      refine .inr ⟨go, fun H2 => xs.length - (i + 1) = xs.length - (i + 1) ∧ i + 1 ≤ xs.length ∧ ∃ (B' : Hp) (cc : Dr) (acc : List V) (done rest : List D), H2 Dl = some (.lst acc) ∧ DpAll K B' acc done ∧ acc.length ≤ i + 1 ∧ Fw ad cc B1 H1 B' (delH H2 Dl) ∧ lcS g t e (wipeR ρ vs) (xs.drop (i + 1)) cc = some (rest, c') ∧ ds = done ++ rest, fun H2 h2 => ⟨xs.length - (i + 1), by omega, h2⟩, fun v H3 hv => ?_⟩
      obtain ⟨B3, gr, dv⟩ := yl v H3 hv
      have hDl3 : H3 Dl = some (.lst acc) := gr.hh Dl _ hDl
      have cell' : ∀ a, ad = some a → H' a = some (.lst [.int cc.1, .int cc.2]) := fun a z => same_delH a _ (y.cell a z)
      have x3 : Fw ad cc B' H' B3 H3 := gr.fw cell'
      have R' : Rl K ad B' (wipe σ vs) H' (wipeR ρ vs) cc := ((R1.fw y).up same_delH).wiped vs
      have R3 := R'.fw x3
      have y3 : Fw ad cc B1 H1 B3 (delH H3 Dl) := R1.trans y (x3.del nB' hDl nad)
      have on := ho v (wipe σ vs) H3 _ (hg ad B3 (wipe σ vs) H3 (wipeR ρ vs) cc v _ ρ2 (fun σ4 H4 => H4 = H3 ∧ Rl K ad B3 σ4 H3 ρ2 cc) R3 dv e3 fun σ4 R4 _ => ⟨rfl, R4⟩)
      have wmono : ∀ σ4 H4, ((H4 = H3 ∧ Rl K ad B3 σ4 H3 ρ2 cc) ∧ wipe σ4 vs = wipe (wipe σ vs) vs) → (wipe σ4 vs = wipe σ vs ∧ tt σ4 H4 fun b H5 => if b = true then te σ4 H5 fun y H6 => ∃ acc', H6 Dl = some (.lst acc') ∧ acc'.length < sizeLine ∧
          (xs.length - (i + 1) = xs.length - (i + 1) ∧ i + 1 ≤ xs.length ∧ ∃ (B' : Hp) (cc : Dr) (acc : List V) (done rest : List D), upd H6 Dl (.lst (acc' ++ [y])) Dl = some (.lst acc) ∧ DpAll K B' acc done ∧ acc.length ≤ i + 1 ∧ Fw ad cc B1 H1 B' (delH (upd H6 Dl (.lst (acc' ++ [y]))) Dl) ∧ lcS g t e (wipeR ρ vs) (xs.drop (i + 1)) cc = some (rest, c') ∧ ds = done ++ rest)
          else (xs.length - (i + 1) = xs.length - (i + 1) ∧ i + 1 ≤ xs.length ∧ ∃ (B' : Hp) (cc : Dr) (acc : List V) (done rest : List D), H5 Dl = some (.lst acc) ∧ DpAll K B' acc done ∧ acc.length ≤ i + 1 ∧ Fw ad cc B1 H1 B' (delH H5 Dl) ∧ lcS g t e (wipeR ρ vs) (xs.drop (i + 1)) cc = some (rest, c') ∧ ds = done ++ rest)) := by
        rintro σ4 H4 ⟨⟨rfl, R4⟩, ew⟩
        have idem : wipe (wipe σ vs) vs = wipe σ vs := by
          have key : ∀ (us : List Nat) (τ : L2.St), (∀ u ∈ us, u ∈ vs) → wipe (wipe σ vs) us = wipe σ vs := by
            intro us
            induction us with
            | nil => intro τ _; rfl
            | cons u us ih =>
              intro τ hs
              show (wipe (wipe σ vs) us).set u none = wipe σ vs
              rw [ih τ fun w hw => hs w (List.mem_cons_of_mem _ hw)]
              have hu : u ∈ vs := hs u List.mem_cons_self
              have : ∀ ws : List Nat, u ∈ ws → (wipe σ ws).set u none = wipe σ ws := by
                intro ws
                induction ws with
                | nil => intro h; cases h
                | cons w ws ih2 =>
                  intro h
                  show ((wipe σ ws).set w none).set u none = (wipe σ ws).set w none
                  by_cases e : u = w
                  · subst e; rw [List.set_set]
                  · have hm : u ∈ ws := by
                      rcases List.mem_cons.mp h with z | z
                      · exact absurd z e
                      · exact z
                    rw [List.set_comm _ _ (Ne.symm e), ih2 hm]
              exact this vs hu
          exact key vs σ fun u h => h
        refine ⟨ew.trans idem, ?_⟩
        refine ht ad B3 σ4 H4 ρ2 cc b c3 _ R4 e5 fun B5 H5 x5 => ?_
        have nB3 : B3 Dl = none := by
          cases z : B3 Dl with
          | none => rfl
          | some u =>
            have := gr.fresh Dl u z nB'
            rw [hDl] at this; cases this
        have R5 := R4.fw x5
        have hDl5 : H5 Dl = some (.lst acc) := x5.keep Dl _ nad hDl3
        have y5 : Fw ad c3 B1 H1 B5 (delH H5 Dl) := R1.trans y3 (x5.del nB3 hDl3 nad)
        have nB5 : B5 Dl = none := by
          cases z : B5 Dl with
          | none => rfl
          | some u =>
            have := x5.fresh Dl u z nB3
            rw [hDl3] at this; cases this
        cases b with
        | true =>
          have e6' : ((e ρ2 c3).bind fun q => (lcS g t e (wipeR ρ vs) (xs.drop (i + 1)) q.2).bind fun r => some (q.1 :: r.1, r.2)) = some (rest, c') := e6
          rw [if_pos rfl]
          obtain ⟨⟨d7, c7⟩, e7, e8⟩ := Option.bind_eq_some_iff.mp e6'
          obtain ⟨⟨rest', c8⟩, e9, e10⟩ := Option.bind_eq_some_iff.mp e8
          cases e10
          refine he ad B5 σ4 H5 ρ2 c3 d7 c7 _ R5 e7 fun w B6 H6 x6 dw => ?_
          have hDl6 : H6 Dl = some (.lst acc) := x6.keep Dl _ nad hDl5
          have y6 : Fw ad c7 B1 H1 B6 (delH H6 Dl) := R1.trans y5 (x6.del nB5 hDl5 nad)
          have ex : delH (upd H6 Dl (.lst (acc ++ [w]))) Dl = delH H6 Dl := by
            funext b
            by_cases z : b = Dl
            · subst z; rw [delH_self, delH_self]
            · rw [delH_ne z, delH_ne z, upd_ne z]
          refine ⟨acc, hDl6, ?_, rfl, hlt, B6, c7, acc ++ [w], done ++ [d7], rest', upd_same, ?_, ?_, ?_, e9, ?_⟩
          · rw [sizeLine_eq]; omega
          · exact dpAll_snoc (dpAll_mono (gr.bb.trans (x5.bb.trans x6.bb)) _ _ dacc) dw
          · rw [List.length_append]
            show acc.length + 1 ≤ i + 1
            omega
          · rw [ex]; exact y6
          · rw [ed, List.append_assoc]; rfl
        | false =>
          have e6' : lcS g t e (wipeR ρ vs) (xs.drop (i + 1)) c3 = some (rest, c') := e6
          rw [if_neg Bool.false_ne_true]
          exact ⟨rfl, hlt, B5, c3, acc, done, rest, hDl5, dpAll_mono (gr.bb.trans x5.bb) _ _ dacc, by omega, y5, e6', ed⟩
      exact mn _ _ _ _ _ wmono on
    · have ei : i = xs.length := by omega
      subst ei
      rw [List.drop_length] at e'
      cases e'
      refine .inl ⟨w1, ?_⟩
      rw [List.append_nil] at ed
      subst ed
      exact q Dl acc B' H' (delH H' Dl) (R.trans x y) delH_self (upd_delH hDl).symm dacc
  · rw [if_neg hz] at e2; cases e2
end
end DL
/-! DLf: what a def promises; calls. -/
namespace DL
open PySem PySem.Spec L2

/-- a def that reckons on plain data alone -/
def spP (K : PySem.W.Frag) (F : List D → Option D) : Sp := fun vs H Q _ => ∃ (ds : List D) (B : Hp) (d : D), Same B H ∧ DpAll K B vs ds ∧ F ds = some d ∧ ∀ v B' H', Grow B H B' H' → Dp K B' v d → Q v H'
/-- .. that draws: the cell is its first argument -/
def spD (K : PySem.W.Frag) (F : List D → Dr → Option (D × Dr)) : Sp := fun vs H Q _ => ∃ (a : Addr) (vs' : List V) (ds : List D) (B : Hp) (c : Dr) (d : D) (c' : Dr), vs = .ref a :: vs' ∧ Same B H ∧ B a = none ∧ H a = some (.lst [.int c.1, .int c.2]) ∧ DpAll K B vs' ds ∧
  F ds c = some (d, c') ∧ ∀ v B' H', Fw (some a) c' B H B' H' → Dp K B' v d → Q v H'
section
variable {K : PySem.W.Frag}
def sCall (F : List D → Option D) (a : SA) : SE := fun ρ c => (a ρ c).bind fun p => (F p.1).bind fun d => some (d, p.2)
theorem imp_call {F : List D → Option D} {t : TA} {a : SA} (h : ImpA K t a) : ImpE K (tCall (spP K F) [] E0 t) (sCall F a) := fun ad B σ H ρ c d c' Q R e q => by
  obtain ⟨⟨ds, c1⟩, e1, e2⟩ := Option.bind_eq_some_iff.mp e
  obtain ⟨d', e3, e4⟩ := Option.bind_eq_some_iff.mp e2
  cases e4
  refine h ad B σ H ρ c ds _ _ R e1 fun vs B' H' x dv => ?_
  show spP K F (vs ++ []) H' Q E0
  rw [List.append_nil]
  exact ⟨ds, B', d, x.bh, dv, e3, fun v B2 H2 g dd => q v B2 H2 (R.trans x (g.fw x.cell)) dd⟩
def sCallD (F : List D → Dr → Option (D × Dr)) (i : Nat) (a : SA) : SE := fun ρ c => match ρ[i]? with
  | some .dr => (a ρ c).bind fun p => F p.1 p.2
  | _ => none
theorem imp_callD {F : List D → Dr → Option (D × Dr)} {i : Nat} {t : TA} {a : SA} (h : ImpA K t a) : ImpE K (tCall (spD K F) [] E0 (tCons (tVar i) t)) (sCallD F i a) := fun ad B σ H ρ c d c' Q R e q => by
  unfold sCallD at e
  split at e
  · rename_i e0
    obtain ⟨⟨ds, c1⟩, e1, e2⟩ := Option.bind_eq_some_iff.mp e
    obtain ⟨a0, rfl, g1⟩ := R.slot i _ e0
    refine ⟨.ref a0, g1, h _ B σ H ρ c ds _ _ R e1 fun vs B' H' x dv => ?_⟩
    show spD K F ((.ref a0 :: vs) ++ []) H' Q E0
    rw [List.append_nil]
    exact ⟨a0, vs, ds, B', c1, d, c', rfl, x.bh, x.cfree R a0 rfl, x.cell a0 rfl, dv, e2, fun v B2 H2 g dd => q v B2 H2 (R.trans x g) dd⟩
  · cases e
/-- calls with keywords: what comes in the def's order -/
def sCallK (F : List D → Option D) (gV : List D → List D → List D) (a b : SA) : SE := fun ρ c => (a ρ c).bind fun p => (b ρ p.2).bind fun q => (F (gV p.1 q.1)).bind fun d => some (d, q.2)
theorem imp_callK {F : List D → Option D} {gV : List V → List V → List V} {gD : List D → List D → List D} {t u : TA} {a b : SA} (hg : ∀ (B : Hp) vs us ds es, DpAll K B vs ds → DpAll K B us es → DpAll K B (gV vs us) (gD ds es)) (h : ImpA K t a) (h2 : ImpA K u b) :
    ImpE K (tCallK (spP K F) gV E0 t u) (sCallK F gD a b) := fun ad B σ H ρ c d c' Q R e q => by
  obtain ⟨⟨ds, c1⟩, e1, e2⟩ := Option.bind_eq_some_iff.mp e
  obtain ⟨⟨es, c2⟩, e3, e4⟩ := Option.bind_eq_some_iff.mp e2
  obtain ⟨d', e5, e6⟩ := Option.bind_eq_some_iff.mp e4
  cases e6
  refine h ad B σ H ρ c ds _ _ R e1 fun vs B1 H1 x dv => ?_
  refine h2 ad B1 σ H1 ρ c1 es _ _ (R.fw x) e3 fun us B2 H2 y du => ?_
  have f2 := R.trans x y
  exact ⟨gD ds es, B2, d, y.bh, hg B2 _ _ _ _ (dpAll_mono y.bb _ _ dv) du, e5, fun v B3 H3 g dd => q v B3 H3 (R.trans f2 (g.fw y.cell)) dd⟩

/-! ### a def's body -/
def endF : Option (Fl × Rho × Dr) → Option (D × Dr)
  | some (.rt d, _, c) => some (d, c)
  | some (.nx, _, c) => some (.none, c)
  | _ => none
def bodyP (m n : Nat) (f : SS) : List D → Option D := fun ds => if ds.length = m then (endF (f (ds.map .im ++ List.replicate n .un) (0, 0))).map (·.1) else none
def bodyD (m n : Nat) (f : SS) : List D → Dr → Option (D × Dr) := fun ds c => if ds.length = m then endF (f (.dr :: (ds.map .im ++ List.replicate n .un)) c) else none
theorem start_get {N : List Str} {vs : List V} {i : Nat} {v : V} (h : vs[i]? = some v) : (L2.start N vs)[i]? = some (some v) := by
  unfold L2.start
  have hi : i < (vs.map some).length := by rw [List.length_map]; exact (List.getElem?_eq_some_iff.mp h).1
  rw [List.getElem?_append_left hi, List.getElem?_map, h]
  rfl
theorem slots_start {B H : Hp} {ad : Option Addr} {n : Nat} {N : List Str} : ∀ {vs : List V} {ds : List D}, DpAll K B vs ds → ∀ (i : Nat) (s : Sl), (ds.map Sl.im ++ List.replicate n Sl.un)[i]? = some s → SlOk K ad B H (L2.start N vs)[i]? s := fun {vs ds} h i s e => by
  by_cases hi : i < ds.length
  · rw [List.getElem?_append_left (by rw [List.length_map]; exact hi), List.getElem?_map, List.getElem?_eq_getElem hi] at e
    cases e
    obtain ⟨v, e1, e2⟩ := dpAll_get h (List.getElem?_eq_getElem hi)
    exact ⟨v, start_get e1, e2⟩
  · rw [List.getElem?_append_right (by rw [List.length_map]; omega)] at e
    have := List.mem_of_getElem? e
    rw [List.mem_replicate] at this
    rw [this.2]
    trivial
theorem noOwn_start {n : Nat} {ds : List D} {i : Nat} {s : Sl} (e : (ds.map Sl.im ++ List.replicate n Sl.un)[i]? = some s) : owns s = false := by
  have hm := List.mem_of_getElem? e
  rcases List.mem_append.mp hm with z | z
  · obtain ⟨d, _, rfl⟩ := List.mem_map.mp z; rfl
  · rw [List.mem_replicate] at z; rw [z.2]; rfl
theorem rl_start {B H : Hp} {N : List Str} {vs : List V} {ds : List D} {n : Nat} (s : Same B H) (h : DpAll K B vs ds) (hl : N.length = vs.length + n) : Rl K none B (L2.start N vs) H (ds.map Sl.im ++ List.replicate n Sl.un) (0, 0) := by
  refine ⟨s, fun a e => (by cases e), fun a e => (by cases e), ?_, slots_start h, fun i j s t a hij e1 e2 o1 => by rw [noOwn_start e1] at o1; cases o1⟩
  unfold L2.start
  rw [List.length_append, List.length_append, List.length_map, List.length_map, List.length_replicate, List.length_replicate, dpAll_len h, hl, dpAll_len h]
  omega
theorem rl_startD {B H : Hp} {N : List Str} {vs : List V} {ds : List D} {n : Nat} {a : Addr} {c : Dr} (s : Same B H) (nB : B a = none) (hc : H a = some (.lst [.int c.1, .int c.2])) (h : DpAll K B vs ds) (hl : N.length = vs.length + 1 + n) :
    Rl K (some a) B (L2.start N (.ref a :: vs)) H (.dr :: (ds.map Sl.im ++ List.replicate n Sl.un)) c := by
  have es : L2.start N (.ref a :: vs) = some (.ref a) :: (vs.map some ++ List.replicate n none) := by
    unfold L2.start
    rw [List.map_cons, List.cons_append, List.length_cons, hl]
    congr 3
    omega
  have es2 : ∀ (i : Nat), (vs.map some ++ List.replicate n (none : Option V))[i]? = (L2.start (List.replicate (vs.length + n) "") vs)[i]? := fun i => by
    unfold L2.start
    rw [List.length_replicate]
    congr 4
    omega
  rw [es]
  refine ⟨s, fun b e => (by cases e; exact hc), fun b e => (by cases e; exact nB), ?_, fun i t e => ?_, fun i j s t b hij e1 e2 o1 o2 => ?_⟩
  · rw [List.length_cons, List.length_cons, List.length_append, List.length_append, List.length_map, List.length_map, List.length_replicate, List.length_replicate, dpAll_len h]
  · cases i with
    | zero =>
      simp at e
      subst e
      exact ⟨a, rfl, rfl⟩
    | succ i =>
      rw [List.getElem?_cons_succ] at e ⊢
      rw [es2]
      exact slots_start h i t e
  · cases i with
    | zero =>
      simp at e1
      subst e1
      cases o1
    | succ i =>
      rw [List.getElem?_cons_succ] at e1
      rw [noOwn_start e1] at o1; cases o1
theorem noOwned {ρ : Rho} {σ : L2.St} (h : ∀ (i : Nat) (s : Sl), ρ[i]? = some s → owns s = false) (a : Addr) : ¬ Owned ρ σ a := fun ⟨i, s, e1, e2, _⟩ => by
  rw [h i s e1] at e2; cases e2
section
variable {P : Program} {w : World} {mg : Str → Option Value} {base : Heap} {x qual : Str} {st : Stmt} {f : Addr} {fd : FuncData} {N ps : List Str} {k n : Nat}
theorem okP {g : SS} (F : Fun K x qual st f fd) (S : FnScope N ps (defScope st)) (hn : N.length = ps.length + n)
    (hb : ∀ (cdv : Value) (A : Around) (outer : List Env) (s : Shared) (H : Hp) (E : XK), Room k (A.deeper (PyProof.Rows.envOfC qual (defScope st) s.heap.objs.size f cdv)) → ∃ t, PSs (cxOf CX0 P w K mg base N qual (defScope st) f cdv A outer s H E).nox (defBody st) t ∧ ImpS K t g) :
    FnOk P w K mg base CX0 (k + 1) f fd ps (spP K (bodyP ps.length n g)) := by
  have hlen : ∀ vs H Q E, spP K (bodyP ps.length n g) vs H Q E → vs.length = ps.length := fun vs H Q E h => by
    obtain ⟨ds, B, d, s, da, e, _⟩ := h
    unfold bodyP at e
    split at e
    · rename_i hl
      rw [dpAll_len da, hl]
    · cases e
  refine F.ok S hlen fun cdv A outer s H vs Q E hr h => ?_
  have hl := hlen vs H Q E h
  obtain ⟨t, ht, im⟩ := hb cdv A outer s H E hr
  obtain ⟨ds, B, d, sB, da, e, q⟩ := h
  refine ⟨t, ht, ?_⟩
  unfold bodyP at e
  split at e
  · rename_i hd
    obtain ⟨⟨d', c'⟩, e1, e2⟩ := Option.map_eq_some_iff.mp e
    cases e2
    have R := rl_start (N := N) sB da (n := n) (by rw [hl]; exact hn)
    have no : ∀ a, ¬ Owned (ds.map Sl.im ++ List.replicate n Sl.un) (L2.start N vs) a := noOwned fun i s e => noOwn_start e
    have gr : ∀ {B' H' : Hp}, Same B B' → Same B' H' → (∀ a o, none ≠ some a → H a = some o → ¬ Owned (ds.map Sl.im ++ List.replicate n Sl.un) (L2.start N vs) a → H' a = some o) → (∀ a o, B' a = some o → B a = none → H a = none ∨ Owned (ds.map Sl.im ++ List.replicate n Sl.un) (L2.start N vs) a) → Grow B H B' H' :=
      fun h1 h2 h3 h4 => ⟨h1, h2, fun a o z => h3 a o (fun z => nomatch z) z (no a), fun a o z1 z2 => (h4 a o z1 z2).elim id fun z => absurd z (no a)⟩
    cases r : g (ds.map Sl.im ++ List.replicate n Sl.un) (0, 0) with
    | none => rw [r] at e1; cases e1
    | some r0 =>
      rw [r] at e1
      refine im none B (L2.start N vs) H _ (0, 0) r0 _ R r ?_
      obtain ⟨fl, ρ', c2⟩ := r0
      cases fl with
      | rt d2 =>
        cases e1
        exact fun v B' σ' H' R' y dv => q v B' H' (gr y.bb R'.sub y.keep y.fresh) dv
      | nx =>
        cases e1
        exact fun B' σ' H' R' y => q _ B' H' (gr y.bb R'.sub y.keep y.fresh) .non
      | bk => cases e1
      | ct => cases e1
  · cases e
theorem okD {g : SS} {y : Str} (F : Fun K x qual st f fd) (S : FnScope N (y :: ps) (defScope st)) (hn : N.length = ps.length + 1 + n)
    (hb : ∀ (cdv : Value) (A : Around) (outer : List Env) (s : Shared) (H : Hp) (E : XK), Room k (A.deeper (PyProof.Rows.envOfC qual (defScope st) s.heap.objs.size f cdv)) → ∃ t, PSs (cxOf CX0 P w K mg base N qual (defScope st) f cdv A outer s H E).nox (defBody st) t ∧ ImpS K t g) :
    FnOk P w K mg base CX0 (k + 1) f fd (y :: ps) (spD K (bodyD ps.length n g)) := by
  have hlen : ∀ vs H Q E, spD K (bodyD ps.length n g) vs H Q E → vs.length = (y :: ps).length := fun vs H Q E h => by
    obtain ⟨a, vs', ds, B, c, d, c', rfl, s, nB, hc, da, e, _⟩ := h
    unfold bodyD at e
    split at e
    · rename_i hl
      rw [List.length_cons, List.length_cons, dpAll_len da, hl]
    · cases e
  refine F.ok S hlen fun cdv A outer s H vs Q E hr h => ?_
  have hl := hlen vs H Q E h
  obtain ⟨t, ht, im⟩ := hb cdv A outer s H E hr
  obtain ⟨a, vs', ds, B, c, d, c', rfl, sB, nB, hc, da, e, q⟩ := h
  refine ⟨t, ht, ?_⟩
  unfold bodyD at e
  split at e
  · rename_i hd
    have R := rl_startD (N := N) sB nB hc da (n := n) (by
      rw [List.length_cons, List.length_cons] at hl
      omega)
    have no : ∀ b, ¬ Owned (.dr :: (ds.map Sl.im ++ List.replicate n Sl.un)) (L2.start N (.ref a :: vs')) b := noOwned fun i s e => by
      cases i with
      | zero => simp at e; subst e; rfl
      | succ i => rw [List.getElem?_cons_succ] at e; exact noOwn_start e
    have gr : ∀ {B' H' : Hp} {c' : Dr}, Same B B' → Same B' H' → (∀ b, some a = some b → H' b = some (.lst [.int c'.1, .int c'.2])) → (∀ b o, some a ≠ some b → H b = some o → ¬ Owned (.dr :: (ds.map Sl.im ++ List.replicate n Sl.un)) (L2.start N (.ref a :: vs')) b → H' b = some o) →
        (∀ b o, B' b = some o → B b = none → H b = none ∨ Owned (.dr :: (ds.map Sl.im ++ List.replicate n Sl.un)) (L2.start N (.ref a :: vs')) b) → Fw (some a) c' B H B' H' :=
      fun h1 h2 hcell h3 h4 => ⟨h1, h2, fun b o z1 z => h3 b o z1 z (no b), hcell, fun b o z1 z2 => (h4 b o z1 z2).elim id fun z => absurd z (no b)⟩
    cases r : g (.dr :: (ds.map Sl.im ++ List.replicate n Sl.un)) c with
    | none => rw [r] at e; cases e
    | some r0 =>
      rw [r] at e
      refine im (some a) B (L2.start N (.ref a :: vs')) H _ c r0 _ R r ?_
      obtain ⟨fl, ρ', c2⟩ := r0
      cases fl with
      | rt d2 =>
        cases e
        exact fun v B' σ' H' R' y dv => q v B' H' (gr y.bb R'.sub R'.cell y.keep y.fresh) dv
      | nx =>
        cases e
        exact fun B' σ' H' R' y => q _ B' H' (gr y.bb R'.sub R'.cell y.keep y.fresh) .non
      | bk => cases e
      | ct => cases e
  · cases e
end
end
end DL
/-! DLt: tuple * int for any small count. -/
namespace DL
open PySem PySem.Spec PyProof.Rows L2
theorem tup_mul_same (l : Addr) (items : Array Value) (n : Nat) (dd : Option Addr) (sl : Array (Option Value)) (x : Int) (u : Tok) (c0 : (decide (x < -(2 ^ 63)) || decide (x ≥ 2 ^ 63)) = false) (c1 : (items.isEmpty || x == 1) = true) :
    Meets (Builtin.«tuple.__mul__» ⟨[.ref l, .int x u], []⟩) (fun _ R s => s.heap.get? l = some { cls := .type "tuple", dict := dd, data := .seq items n, slots := sl } ∧ R (.ok (.ret (Value.ref l))) s) :=
  .of_wp fun prog w A R s h => by
    obtain ⟨hp, g, d, tk, os⟩ := s
    obtain ⟨hl, h⟩ := h
    have f1 := AutoSeq1.idx_int
    wp_walk using wpAny_loadPart' hl
    repeat (first
      | (refine wpAny_ite_false (decide_eq_false (by rw [c0]; exact Bool.false_ne_true)) ?_; wp_walk using wpAny_loadPart' hl)
      | (refine wpAny_ite_true (decide_eq_true (by rw [c1])) ?_; wp_walk using wpAny_loadPart' hl))
    all_goals exact ⟨_, rfl, h⟩
theorem tup_mul_none (l : Addr) (items : Array Value) (n : Nat) (dd : Option Addr) (sl : Array (Option Value)) (x : Int) (u : Tok) (c0 : (decide (x < -(2 ^ 63)) || decide (x ≥ 2 ^ 63)) = false) (c1 : (items.isEmpty || x == 1) = false) (c2 : (decide (x ≤ 0) || items.isEmpty) = true) :
    Meets (Builtin.«tuple.__mul__» ⟨[.ref l, .int x u], []⟩) (fun _ R s => s.heap.get? l = some { cls := .type "tuple", dict := dd, data := .seq items n, slots := sl } ∧
      R (.ok (.ret (Value.ref s.heap.objs.size))) { s with heap := s.heap.push { cls := Value.type "tuple", data := Data.seq #[] }, toks := s.toks }) :=
  .of_wp fun prog w A R s h => by
    obtain ⟨hp, g, d, tk, os⟩ := s
    obtain ⟨hl, h⟩ := h
    have f1 := AutoSeq1.idx_int
    wp_walk using wpAny_loadPart' hl
    repeat (first
      | (refine wpAny_ite_false (decide_eq_false (by rw [c0]; exact Bool.false_ne_true)) ?_; wp_walk using wpAny_loadPart' hl)
      | (refine wpAny_ite_false (decide_eq_false (by rw [c1]; exact Bool.false_ne_true)) ?_; wp_walk using wpAny_loadPart' hl)
      | (refine wpAny_ite_true (decide_eq_true (by rw [c2])) ?_; wp_walk using wpAny_loadPart' hl))
    all_goals exact ⟨_, rfl, h⟩
/-- t * k, k small -/
def rRepA (K : PySem.W.Frag) : R2 := fun x y H Q => ∃ l k xs, x = .ref l ∧ y = .int k ∧ SqT K H l xs ∧ -1000 ≤ k ∧ k ≤ 1000 ∧ xs.length ≤ 1000 ∧ (xs = [] ∨ k = 1 → Q (.ref l) H) ∧ (xs ≠ [] → k ≤ 0 → ∀ p, H p = none → Q (.ref p) (upd H p (.tup []))) ∧
  (xs ≠ [] → 2 ≤ k → ∀ p, H p = none → Q (.ref p) (upd H p (.tup (List.replicate k.toNat xs).flatten)))
section
variable {X : Cx}
theorem op_repA : OpR X (binaryOp .Mult) (rRepA X.K) := by
  intro pins s σ H x y v u Q I rx ry h
  obtain ⟨l, k, xs, rfl, rfl, hT, h1, h2, hz, q1, q2, q3⟩ := h
  by_cases c1 : xs = [] ∨ k = 1
  · cases rx
    obtain ⟨t, rfl⟩ := ry
    obtain ⟨its, r, ⟨⟨cls, dd, data, sl⟩, ho, hc, n, hd⟩, hs⟩ := I.tuple hT
    simp only at hc hd
    subst hc hd
    have c0 : (decide (k < -(2 ^ 63)) || decide (k ≥ 2 ^ 63)) = false := by
      rw [decide_eq_false (by omega), decide_eq_false (by omega)] <;> rfl
    have c1' : (its.toArray.isEmpty || k == 1) = true := by
      rcases c1 with e | e
      · subst e
        cases r
        rfl
      · subst e
        simp
    refine wpAny_binaryOp_repeat_ref (T := "tuple") (U := "int") (by decide) ⟨_, ho, rfl⟩ (fun s' => typeIs_int s' k t) noFill_tuple_mul F.fills_int_mul F.slot_int_rmul repeat_tuple F.slot_int_index.lookup
      (call_meets F.slot_int_rmul (typeIs_int s k t) F.entry_int_rmul (F.args_int_rmul_2 _ _) (int_rmul_tuple k t l its.toArray n dd sl)
        ⟨ho, rfl, ⟨_, ho, rfl⟩, call_meets F.slot_tuple_mul ⟨_, ho, rfl⟩ F.entry_tuple_mul (F.args_tuple_mul_2 _ _) (tup_mul_same l its.toArray n dd sl k t c0 c1') ⟨ho, ?_⟩⟩)
    exact ⟨.ref l, H, I, rfl, q1 c1⟩
  · have hne : xs ≠ [] := fun e => c1 (.inl e)
    have hk : k ≠ 1 := fun e => c1 (.inr e)
    by_cases hk0 : k ≤ 0
    · cases rx
      obtain ⟨t, rfl⟩ := ry
      obtain ⟨its, r, ⟨⟨cls, dd, data, sl⟩, ho, hc, n, hd⟩, hs⟩ := I.tuple hT
      simp only at hc hd
      subst hc hd
      have hi : its.toArray.isEmpty = false := by
        cases r with
        | nil => exact absurd rfl hne
        | cons a b => rfl
      have c0 : (decide (k < -(2 ^ 63)) || decide (k ≥ 2 ^ 63)) = false := by
        rw [decide_eq_false (by omega), decide_eq_false (by omega)] <;> rfl
      have c1' : (its.toArray.isEmpty || k == 1) = false := by
        rw [hi, Bool.false_or]
        exact beq_eq_false_iff_ne.mpr hk
      have c2' : (decide (k ≤ 0) || its.toArray.isEmpty) = true := by
        rw [decide_eq_true hk0]; rfl
      refine wpAny_binaryOp_repeat_ref (T := "tuple") (U := "int") (by decide) ⟨_, ho, rfl⟩ (fun s' => typeIs_int s' k t) noFill_tuple_mul F.fills_int_mul F.slot_int_rmul repeat_tuple F.slot_int_index.lookup
        (call_meets F.slot_int_rmul (typeIs_int s k t) F.entry_int_rmul (F.args_int_rmul_2 _ _) (int_rmul_tuple k t l its.toArray n dd sl)
          ⟨ho, rfl, ⟨_, ho, rfl⟩, call_meets F.slot_tuple_mul ⟨_, ho, rfl⟩ F.entry_tuple_mul (F.args_tuple_mul_2 _ _) (tup_mul_none l its.toArray n dd sl k t c0 c1' c2') ⟨ho, ?_⟩⟩)
      refine ⟨.ref s.heap.objs.size, _, I.laid (t' := s.toks) (o := .tup []) (fun b ob q => Heap.get?_push_of_some _ q) (Nat.le_refl _) ?_, rfl, q2 hne hk0 _ (I.hok.fresh (Nat.le_refl _))⟩
      exact ⟨Nat.zero_le _, [], .nil, IsTup.new _ _⟩
    · exact op_repT pins s σ H _ _ v u Q I rx ry ⟨l, k, xs, rfl, rfl, hT, hne, by omega, h2, hz, q3 hne (by omega)⟩
end
end DL
/-! DLg: operators and built-ins, on data. -/
namespace DL
open PySem PySem.Spec L2
open PyProof.Rows (b2i)
section
variable {K : PySem.W.Frag}
theorem Grow.newTup {B H : Hp} {p : Addr} {vs : List V} {ds : List D} (s : Same B H) (np : H p = none) (h : DpAll K B vs ds) : Grow B H (upd B p (.tup vs)) (upd H p (.tup vs)) ∧ Dp K (upd B p (.tup vs)) (.ref p) (.tuple ds) := ⟨Grow.new s np, dp_newTup (s.free np) h⟩
theorem Grow.newLst {B H : Hp} {p : Addr} {vs : List V} {ds : List D} (s : Same B H) (np : H p = none) (h : DpAll K B vs ds) : Grow B H (upd B p (.lst vs)) (upd H p (.lst vs)) ∧ Dp K (upd B p (.lst vs)) (.ref p) (.list ds) := ⟨Grow.new s np, dp_newLst (s.free np) h⟩
/-! ### + - * / % ** -/
def addD : D → D → Option D
  | .int a, .int b => some (.int (a + b))
  | .int a, .bool b => some (.int (a + b2i b))
  | .list xs, .list ys => if few (xs.length + ys.length) = true then some (.list (xs ++ ys)) else none
  | .tuple xs, .tuple ys => if few (xs.length + ys.length) = true then some (.tuple (xs ++ ys)) else none
  | .str x, .str y => if few (x.length + y.length) = true then some (.str (x ++ y)) else none
  | _, _ => none
abbrev rAddA (K : PySem.W.Frag) : R2 := fun x y H Q => (rI0 fun i j => .int (i + j)) x y H Q ∨ (rCat x y H Q ∨ (rCatA K x y H Q ∨ ((∃ i j, x = .str i ∧ y = .str j ∧ i.length + j.length ≤ sizeLine ∧ Q (.str (i ++ j)) H) ∨ (∃ i k, x = .int i ∧ y = .bl k ∧ Q (.int (i + b2i k)) H))))
theorem op_addA {X : Cx} : OpR X (binaryOp .Add) (rAddA X.K) := op_add.or (op_cat.or (op_catA.or (op_add_str.or op_add_ib)))
theorem d_add : OpD K (rAddA K) addD := fun B H x y d e z Q s hx hy h q => by
  cases hx with
  | int a =>
    cases hy with
    | int b => cases h; exact .inl ⟨a, b, rfl, rfl, q _ B H (Grow.refl s) (.int _)⟩
    | bl b => cases h; exact .inr (.inr (.inr (.inr ⟨a, b, rfl, rfl, q _ B H (Grow.refl s) (.int _)⟩)))
    | _ => cases h
  | str a =>
    cases hy with
    | str b =>
      have h' : (if few (a.length + b.length) = true then some (PyData.str (a ++ b)) else none) = some z := h
      split at h'
      · rename_i hz
        cases h'
        exact .inr (.inr (.inr (.inl ⟨a, b, rfl, rfl, few_line hz, q _ B H (Grow.refl s) (.str _)⟩)))
      · cases h'
    | _ => cases h
  | @lst a xs ds h1 h2 =>
    cases hy with
    | @lst b ys es g1 g2 =>
      have h' : (if few (ds.length + es.length) = true then some (PyData.list (ds ++ es)) else none) = some z := h
      split at h'
      · rename_i hz
        cases h'
        refine .inr (.inl ⟨a, b, xs, ys, rfl, rfl, s _ _ h1, s _ _ g1, by rw [dpAll_len h2, dpAll_len g2]; exact few_line hz, fun p np => ?_⟩)
        obtain ⟨g, dd⟩ := Grow.newLst s np (dpAll_append h2 g2)
        exact q _ _ _ g dd
      · cases h'
    | _ => cases h
  | @tup a xs ds h1 h2 =>
    cases hy with
    | @tup b ys es g1 g2 =>
      have h' : (if few (ds.length + es.length) = true then some (PyData.tuple (ds ++ es)) else none) = some z := h
      split at h'
      · rename_i hz
        cases h'
        refine .inr (.inr (.inl ⟨a, b, xs, ys, rfl, rfl, SqT.of (s _ _ h1), SqT.of (s _ _ g1), by rw [dpAll_len h2, dpAll_len g2]; exact few_line hz, fun ex => ?_, fun _ ey => ?_, fun _ _ p np => ?_⟩))
        · subst ex
          cases h2
          exact q _ B H (Grow.refl s) (.tup g1 g2)
        · subst ey
          cases g2
          rw [List.append_nil] at q
          exact q _ B H (Grow.refl s) (.tup h1 h2)
        · obtain ⟨g, dd⟩ := Grow.newTup s np (dpAll_append h2 g2)
          exact q _ _ _ g dd
      · cases h'
    | _ => cases h
  | _ => cases h
def subD : D → D → Option D
  | .int a, .int b => some (.int (a - b))
  | _, _ => none
theorem d_sub : OpD K (rI0 fun i j => .int (i - j)) subD := fun B H x y d e z Q s hx hy h q => by
  cases hx with
  | int a =>
    cases hy with
    | int b => cases h; exact ⟨a, b, rfl, rfl, q _ B H (Grow.refl s) (.int _)⟩
    | _ => cases h
  | _ => cases h
theorem d_ipadd : OpD K (ipI fun i j => i + j) (fun d e => match d, e with | .int a, .int b => some (.int (a + b)) | _, _ => none) := fun B H x y d e z Q s hx hy h q => by
  cases hx with
  | int a =>
    cases hy with
    | int b => cases h; exact ⟨a, b, rfl, rfl, q _ B H (Grow.refl s) (.int _)⟩
    | _ => cases h
  | _ => cases h
def ipaddD : D → D → Option D := fun d e => match d, e with | .int a, .int b => some (.int (a + b)) | _, _ => none
theorem d_ip : OpD K (ipI fun i j => i + j) ipaddD := d_ipadd
/-- a factor that is not great -/
def midI (i : Int) : Bool := decide (i.natAbs < 2 ^ 64)
theorem midI_to {i : Int} (h : midI i = true) : -(2 ^ 64) < i ∧ i < 2 ^ 64 := by
  have := of_decide_eq_true h
  constructor <;> omega
def mulD : D → D → Option D
  | .int a, .int b => if midI a = true ∨ midI b = true ∨ a.natAbs.log2 + b.natAbs.log2 < 1000000 then some (.int (a * b)) else none
  | .list xs, .int k => if few xs.length = true ∧ xs.length * k.toNat ≤ 1000000 ∧ -1000000 ≤ k ∧ k ≤ 1000000 then some (.list (List.replicate k.toNat xs).flatten) else none
  | .tuple xs, .int k => if xs.length ≤ 1000 ∧ -1000 ≤ k ∧ k ≤ 1000 then some (.tuple (List.replicate k.toNat xs).flatten) else none
  | _, _ => none
abbrev rMulA (K : PySem.W.Frag) : R2 := fun x y H Q => (rI CMul fun i j => .int (i * j)) x y H Q ∨ (rRep x y H Q ∨ (rRepA K x y H Q ∨ (rI CMulW fun i j => .int (i * j)) x y H Q))
theorem op_mulA {X : Cx} : OpR X (binaryOp .Mult) (rMulA X.K) := op_mul.or (op_rep.or (op_repA.or op_mulW))
theorem d_mul : OpD K (rMulA K) mulD := fun B H x y d e z Q s hx hy h q => by
  cases hx with
  | int a =>
    cases hy with
    | int b =>
      have h' : (if midI a = true ∨ midI b = true ∨ a.natAbs.log2 + b.natAbs.log2 < 1000000 then some (PyData.int (a * b)) else none) = some z := h
      split at h'
      · rename_i hz
        cases h'
        rcases hz with w | w | w
        · exact .inl ⟨a, b, rfl, rfl, .inl (midI_to w), q _ B H (Grow.refl s) (.int _)⟩
        · exact .inl ⟨a, b, rfl, rfl, .inr (midI_to w), q _ B H (Grow.refl s) (.int _)⟩
        · exact .inr (.inr (.inr ⟨a, b, rfl, rfl, w, q _ B H (Grow.refl s) (.int _)⟩))
      · cases h'
    | _ => cases h
  | @lst a xs ds h1 h2 =>
    cases hy with
    | int k =>
      have h' : (if few ds.length = true ∧ ds.length * k.toNat ≤ 1000000 ∧ -1000000 ≤ k ∧ k ≤ 1000000 then some (PyData.list (List.replicate k.toNat ds).flatten) else none) = some z := h
      split at h'
      · rename_i hz
        cases h'
        obtain ⟨z1, z2, z3, z4⟩ := hz
        refine .inr (.inl ⟨a, k, xs, rfl, rfl, s _ _ h1, by omega, by omega, by rw [dpAll_len h2, sizeLine_eq]; omega, fun p np => ?_⟩)
        obtain ⟨g, dd⟩ := Grow.newLst s np (dpAll_rep h2 k.toNat)
        exact q _ _ _ g dd
      · cases h'
    | _ => cases h
  | @tup a xs ds h1 h2 =>
    cases hy with
    | int k =>
      have h' : (if ds.length ≤ 1000 ∧ -1000 ≤ k ∧ k ≤ 1000 then some (PyData.tuple (List.replicate k.toNat ds).flatten) else none) = some z := h
      split at h'
      · rename_i hz
        cases h'
        obtain ⟨z1, z2, z3⟩ := hz
        refine .inr (.inr (.inl ⟨a, k, xs, rfl, rfl, SqT.of (s _ _ h1), by omega, by omega, by rw [dpAll_len h2]; exact z1, fun c1 => ?_, fun hn hk p np => ?_, fun hn hk p np => ?_⟩))
        · have e : (List.replicate k.toNat ds).flatten = ds := by
            rcases c1 with w | w
            · subst w
              cases h2
              exact List.flatten_replicate_nil
            · subst w
              show ([ds] : List (List D)).flatten = ds
              simp
          rw [e] at q
          exact q _ B H (Grow.refl s) (.tup h1 h2)
        · have e : k.toNat = 0 := by omega
          rw [e] at q
          obtain ⟨g, dd⟩ := Grow.newTup s np (DpAll.nil (K := K))
          exact q _ _ _ g dd
        · obtain ⟨g, dd⟩ := Grow.newTup s np (dpAll_rep h2 k.toNat)
          exact q _ _ _ g dd
      · cases h'
    | _ => cases h
  | _ => cases h
def fdivD : D → D → Option D
  | .int a, .int b => if 0 < b ∧ b.natAbs < 1073741824 then some (.int (a / b)) else none
  | _, _ => none
theorem d_fdiv : OpD K (rI CDiv fun i j => .int (i / j)) fdivD := fun B H x y d e z Q s hx hy h q => by
  cases hx with
  | int a =>
    cases hy with
    | int b =>
      have h' : (if 0 < b ∧ b.natAbs < 1073741824 then some (PyData.int (a / b)) else none) = some z := h
      split at h'
      · rename_i hz
        cases h'
        exact ⟨a, b, rfl, rfl, ⟨hz.1, by omega⟩, q _ B H (Grow.refl s) (.int _)⟩
      · cases h'
    | _ => cases h
  | _ => cases h
def modD : D → D → Option D
  | .int a, .int b => if 0 < b then some (.int (a % b)) else none
  | _, _ => none
theorem d_mod : OpD K (rI (fun _ j => 0 < j) fun i j => .int (i % j)) modD := fun B H x y d e z Q s hx hy h q => by
  cases hx with
  | int a =>
    cases hy with
    | int b =>
      have h' : (if 0 < b then some (PyData.int (a % b)) else none) = some z := h
      split at h'
      · rename_i hz
        cases h'
        exact ⟨a, b, rfl, rfl, hz, q _ B H (Grow.refl s) (.int _)⟩
      · cases h'
    | _ => cases h
  | _ => cases h
def powD : D → D → Option D
  | .int a, .int b => if 0 ≤ b ∧ b ≤ 1000000 ∧ a.natAbs < 2 ^ 64 then some (.int (a ^ b.toNat)) else none
  | _, _ => none
theorem d_pow : OpD K (rI CPow fun i j => .int (i ^ j.toNat)) powD := fun B H x y d e z Q s hx hy h q => by
  cases hx with
  | int a =>
    cases hy with
    | int b =>
      have h' : (if 0 ≤ b ∧ b ≤ 1000000 ∧ a.natAbs < 2 ^ 64 then some (PyData.int (a ^ b.toNat)) else none) = some z := h
      split at h'
      · rename_i hz
        cases h'
        exact ⟨a, b, rfl, rfl, hz, q _ B H (Grow.refl s) (.int _)⟩
      · cases h'
    | _ => cases h
  | _ => cases h
def negD : D → Option D
  | .int a => some (.int (-a))
  | _ => none
theorem d_neg : UnD K (rU fun i => .int (-i)) negD := fun B H x d z Q s hx h q => by
  cases hx with
  | int a => cases h; exact ⟨a, rfl, q _ B H (Grow.refl s) (.int _)⟩
  | _ => cases h
/-! ### comparisons -/
def eqD (d e : D) : Option D := if SeqAt.shaped d = true ∧ SeqAt.shaped e = true then some (.bool (PyData.eqv d e)) else none
def neD (d e : D) : Option D := if SeqAt.shaped d = true ∧ SeqAt.shaped e = true then some (.bool (!PyData.eqv d e)) else none
theorem d_eq : OpD K (rEqD K) eqD := fun B H x y d e z Q s hx hy h q => by
  unfold eqD at h
  split at h
  · rename_i hz
    cases h
    exact ⟨d, e, dp_old _ _ (dp_mono s _ _ hx), dp_old _ _ (dp_mono s _ _ hy), hz.1, hz.2, q _ B H (Grow.refl s) (.bl _)⟩
  · cases h
theorem d_ne : OpD K (rNeD K) neD := fun B H x y d e z Q s hx hy h q => by
  unfold neD at h
  split at h
  · rename_i hz
    cases h
    exact ⟨d, e, dp_old _ _ (dp_mono s _ _ hx), dp_old _ _ (dp_mono s _ _ hy), hz.1, hz.2, q _ B H (Grow.refl s) (.bl _)⟩
  · cases h
def cmpD (p : Int → Int → Bool) : D → D → Option D
  | .int a, .int b => some (.bool (p a b))
  | _, _ => none
theorem d_cmp {p : Int → Int → Bool} : OpD K (rI0 fun i j => .bl (p i j)) (cmpD p) := fun B H x y d e z Q s hx hy h q => by
  cases hx with
  | int a =>
    cases hy with
    | int b => cases h; exact ⟨a, b, rfl, rfl, q _ B H (Grow.refl s) (.bl _)⟩
    | _ => cases h
  | _ => cases h
abbrev ltD := cmpD fun i j => decide (i < j)
abbrev leD := cmpD fun i j => decide (i ≤ j)
abbrev gtD := cmpD fun i j => decide (j < i)
abbrev geD := cmpD fun i j => decide (j ≤ i)
theorem d_lt : OpD K (rI0 fun i j => .bl (decide (i < j))) ltD := d_cmp
theorem d_le : OpD K (rI0 fun i j => .bl (decide (i ≤ j))) leD := d_cmp
theorem d_gt : OpD K (rI0 fun i j => .bl (decide (j < i))) gtD := d_cmp
theorem d_ge : OpD K (rI0 fun i j => .bl (decide (j ≤ i))) geD := d_cmp
def isNone : D → Bool
  | .none => true
  | _ => false
theorem dp_isNone {B : Hp} {x : V} {d : D} (h : Dp K B x d) : decide (x = .non) = isNone d := by
  cases h <;> simp [isNone]
def isND : D → D → Option D
  | d, .none => some (.bool (isNone d))
  | _, _ => none
def notND : D → D → Option D
  | d, .none => some (.bool (!isNone d))
  | _, _ => none
theorem d_isN : OpD K (fun x y H Q => y = .non ∧ Q (.bl (decide (x = .non))) H) isND := fun B H x y d e z Q s hx hy h q => by
  cases hy with
  | non =>
    cases h
    refine ⟨rfl, ?_⟩
    rw [dp_isNone hx]
    exact q _ B H (Grow.refl s) (.bl _)
  | _ => cases h
theorem d_notN : OpD K (fun x y H Q => y = .non ∧ Q (.bl (!decide (x = .non))) H) notND := fun B H x y d e z Q s hx hy h q => by
  cases hy with
  | non =>
    cases h
    refine ⟨rfl, ?_⟩
    rw [dp_isNone hx]
    exact q _ B H (Grow.refl s) (.bl _)
  | _ => cases h
/-! in, not in -/
def inD : D → D → Option D
  | d, .list ds => if SeqAt.shaped d = true ∧ SeqAt.shaped (.list ds) = true then some (.bool (ds.any fun z => PyData.eqv z d)) else none
  | d, .tuple ds => if SeqAt.shaped d = true ∧ SeqAt.shaped (.tuple ds) = true then some (.bool (ds.any fun z => PyData.eqv z d)) else none
  | _, _ => none
def notInD : D → D → Option D
  | d, .list ds => if SeqAt.shaped d = true ∧ SeqAt.shaped (.list ds) = true then some (.bool (!ds.any fun z => PyData.eqv z d)) else none
  | d, .tuple ds => if SeqAt.shaped d = true ∧ SeqAt.shaped (.tuple ds) = true then some (.bool (!ds.any fun z => PyData.eqv z d)) else none
  | _, _ => none
def rInT (K : PySem.W.Frag) : R2 := fun x y H Q => ∃ d ds, L2.Dp K H x d ∧ L2.Dp K H y (.tuple ds) ∧ SeqAt.shaped d = true ∧ SeqAt.shaped (.tuple ds) = true ∧ Q (.bl (ds.any fun z => PyData.eqv z d)) H
def rNotInT (K : PySem.W.Frag) : R2 := fun x y H Q => ∃ d ds, L2.Dp K H x d ∧ L2.Dp K H y (.tuple ds) ∧ SeqAt.shaped d = true ∧ SeqAt.shaped (.tuple ds) = true ∧ Q (.bl (!ds.any fun z => PyData.eqv z d)) H
theorem room_in {A : Around} {d : D} {ds : List D} (h : SeqAt.shaped d = true) (hu : A.units + 65 < cLine) : A.units + 1 + min (PyData.depthAll ds) d.depth < cLine := by
  have := SeqAt.depth_of_shaped h
  have h2 : min (PyData.depthAll ds) d.depth ≤ d.depth := Nat.min_le_right _ _
  omega
theorem op_inT {X : Cx} (hu : X.A.units + 65 < cLine) : OpR X (compareOp .In) (rInT X.K) := by
  intro pins s σ H x y v u Q I rx ry h
  obtain ⟨d, ds, hd, he, sd, se, q⟩ := h
  obtain ⟨as, r1⟩ := Dp.reads I d x v hd rx
  obtain ⟨bs, r2⟩ := Dp.reads I (.tuple ds) y u he ry
  exact SeqAt.in_tuple_reads r2 r1 (SeqAt.canLay_of_shaped se) (SeqAt.canLay_of_shaped sd) (room_in sd hu) ⟨.bl _, H, I, rfl, q⟩
theorem op_notInT {X : Cx} (hu : X.A.units + 65 < cLine) : OpR X (compareOp .NotIn) (rNotInT X.K) := by
  intro pins s σ H x y v u Q I rx ry h
  obtain ⟨d, ds, hd, he, sd, se, q⟩ := h
  obtain ⟨as, r1⟩ := Dp.reads I d x v hd rx
  obtain ⟨bs, r2⟩ := Dp.reads I (.tuple ds) y u he ry
  exact SeqAt.notIn_tuple_reads r2 r1 (SeqAt.canLay_of_shaped se) (SeqAt.canLay_of_shaped sd) (room_in sd hu) ⟨.bl _, H, I, rfl, q⟩
abbrev rInA (K : PySem.W.Frag) : R2 := fun x y H Q => rInD K x y H Q ∨ rInT K x y H Q
abbrev rNotInA (K : PySem.W.Frag) : R2 := fun x y H Q => rNotInD K x y H Q ∨ rNotInT K x y H Q
theorem op_inA {X : Cx} (hu : X.A.units + 65 < cLine) : OpR X (compareOp .In) (rInA X.K) := (op_inD hu).or (op_inT hu)
theorem op_notInA {X : Cx} (hu : X.A.units + 65 < cLine) : OpR X (compareOp .NotIn) (rNotInA X.K) := (op_notInD hu).or (op_notInT hu)
theorem d_in : OpD K (rInA K) inD := fun B H x y d e z Q s hx hy h q => by
  have hx' := dp_old _ _ (dp_mono s _ _ hx)
  cases hy with
  | @lst a ys ds g1 g2 =>
    have h' : (if SeqAt.shaped d = true ∧ SeqAt.shaped (.list ds) = true then some (PyData.bool (ds.any fun z => PyData.eqv z d)) else none) = some z := h
    split at h'
    · rename_i hz
      cases h'
      exact .inl ⟨d, ds, hx', dp_old _ _ (dp_mono s _ _ (.lst g1 g2)), hz.1, hz.2, q _ B H (Grow.refl s) (.bl _)⟩
    · cases h'
  | @tup a ys ds g1 g2 =>
    have h' : (if SeqAt.shaped d = true ∧ SeqAt.shaped (.tuple ds) = true then some (PyData.bool (ds.any fun z => PyData.eqv z d)) else none) = some z := h
    split at h'
    · rename_i hz
      cases h'
      exact .inr ⟨d, ds, hx', dp_old _ _ (dp_mono s _ _ (.tup g1 g2)), hz.1, hz.2, q _ B H (Grow.refl s) (.bl _)⟩
    · cases h'
  | _ => cases h
theorem d_notIn : OpD K (rNotInA K) notInD := fun B H x y d e z Q s hx hy h q => by
  have hx' := dp_old _ _ (dp_mono s _ _ hx)
  cases hy with
  | @lst a ys ds g1 g2 =>
    have h' : (if SeqAt.shaped d = true ∧ SeqAt.shaped (.list ds) = true then some (PyData.bool (!ds.any fun z => PyData.eqv z d)) else none) = some z := h
    split at h'
    · rename_i hz
      cases h'
      exact .inl ⟨d, ds, hx', dp_old _ _ (dp_mono s _ _ (.lst g1 g2)), hz.1, hz.2, q _ B H (Grow.refl s) (.bl _)⟩
    · cases h'
  | @tup a ys ds g1 g2 =>
    have h' : (if SeqAt.shaped d = true ∧ SeqAt.shaped (.tuple ds) = true then some (PyData.bool (!ds.any fun z => PyData.eqv z d)) else none) = some z := h
    split at h'
    · rename_i hz
      cases h'
      exact .inr ⟨d, ds, hx', dp_old _ _ (dp_mono s _ _ (.tup g1 g2)), hz.1, hz.2, q _ B H (Grow.refl s) (.bl _)⟩
    · cases h'
  | _ => cases h
/-! ### subscripts, slices -/
def ixD : D → D → Option D
  | .list xs, .int i => atI xs i
  | .tuple xs, .int i => atI xs i
  | _, _ => none
theorem d_ix : OpD K (rIx K) ixD := fun B H x y d e z Q s hx hy h q => by
  cases hx with
  | @lst a xs ds h1 h2 =>
    cases hy with
    | int i =>
      obtain ⟨v, e1, e2⟩ := dpAll_at h2 h
      exact .inl ⟨a, xs, i, v, rfl, rfl, SqL.of (s _ _ h1), e1, q v B H (Grow.refl s) e2⟩
    | _ => cases h
  | @tup a xs ds h1 h2 =>
    cases hy with
    | int i =>
      obtain ⟨v, e1, e2⟩ := dpAll_at h2 h
      exact .inr (.inl ⟨a, xs, i, v, rfl, rfl, SqT.of (s _ _ h1), e1, q v B H (Grow.refl s) e2⟩)
    | _ => cases h
  | _ => cases h
def cutL {α : Type} (xs : List α) (lo hi : Option Int) : List α := (xs.drop (HT.sIx xs.length 0 lo)).take (HT.sIx xs.length xs.length hi - HT.sIx xs.length 0 lo)
theorem dpAll_cut {B : Hp} {ds : List D} {vs : List V} (lo hi : Option Int) (h : DpAll K B vs ds) : DpAll K B (cutV vs lo hi) (cutL ds lo hi) := by
  unfold cutV cutL
  rw [dpAll_len h]
  exact dpAll_take _ (dpAll_drop _ h)
def slD : D → Option Int → Option Int → Option D
  | .list xs, lo, hi => some (.list (cutL xs lo hi))
  | .tuple xs, lo, hi => some (.tuple (cutL xs lo hi))
  | _, _, _ => none
abbrev rSlX (K : PySem.W.Frag) : V → Option Int → Option Int → Hp → VK → Prop := fun x lo hi H Q => rSlL K x lo hi H Q ∨ rSlA K x lo hi H Q
theorem sl_any {X : Cx} : SlR X (rSlX X.K) := sl_list.or sl_tupA
theorem d_sl : SlD K (rSlX K) slD := fun B H x d z lo hi Q s hx h q => by
  cases hx with
  | @lst a xs ds h1 h2 =>
    cases h
    refine .inl ⟨a, xs, rfl, SqL.of (s _ _ h1), fun p np => ?_⟩
    obtain ⟨g, dd⟩ := Grow.newLst s np (dpAll_cut lo hi h2)
    exact q _ _ _ g dd
  | @tup a xs ds h1 h2 =>
    cases h
    refine .inr ⟨a, xs, rfl, SqT.of (s _ _ h1), fun hw => ?_, fun _ p np => ?_⟩
    · have e : cutL ds lo hi = ds := by
        unfold cutL
        rw [← dpAll_len h2, hw.1, hw.2, List.drop_zero, Nat.sub_zero, dpAll_len h2, List.take_length]
      rw [e] at q
      exact q _ B H (Grow.refl s) (.tup h1 h2)
    · obtain ⟨g, dd⟩ := Grow.newTup s np (dpAll_cut lo hi h2)
      exact q _ _ _ g dd
  | _ => cases h
/-! ### built-ins -/
theorem dpAll_1 {B : Hp} {xs : List V} {d : D} (h : DpAll K B xs [d]) : ∃ x, xs = [x] ∧ Dp K B x d := by
  cases h with
  | cons h1 h2 => cases h2; exact ⟨_, rfl, h1⟩
theorem dpAll_2 {B : Hp} {xs : List V} {d e : D} (h : DpAll K B xs [d, e]) : ∃ x y, xs = [x, y] ∧ Dp K B x d ∧ Dp K B y e := by
  cases h with
  | cons h1 h2 =>
    cases h2 with
    | cons h3 h4 => cases h4; exact ⟨_, _, rfl, h1, h3⟩
def lenD : List D → Option D
  | [.list xs] => some (.int xs.length)
  | [.tuple xs] => some (.int xs.length)
  | _ => none
theorem d_len : CallD K (fun xs H Q => ∃ p ys, xs = [.ref p] ∧ (SqL K H p ys ∨ SqT K H p ys) ∧ Q (.int ys.length) H) lenD := fun B H xs ds z Q s hx h q => by
  unfold lenD at h
  split at h
  · cases h
    obtain ⟨x, rfl, h1⟩ := dpAll_1 hx
    obtain ⟨a, vs, rfl, g1, g2⟩ := dp_list h1
    refine ⟨a, vs, rfl, .inl (SqL.of (s _ _ g1)), ?_⟩
    rw [dpAll_len g2]
    exact q _ B H (Grow.refl s) (.int _)
  · cases h
    obtain ⟨x, rfl, h1⟩ := dpAll_1 hx
    obtain ⟨a, vs, rfl, g1, g2⟩ := dp_tuple h1
    refine ⟨a, vs, rfl, .inr (SqT.of (s _ _ g1)), ?_⟩
    rw [dpAll_len g2]
    exact q _ B H (Grow.refl s) (.int _)
  · cases h
/-- all of them ints, bools -/
def intsD : List D → Option (List Int)
  | [] => some []
  | .int i :: ds => (intsD ds).map (i :: ·)
  | _ :: _ => none
def boolsD : List D → Option (List Bool)
  | [] => some []
  | .bool i :: ds => (boolsD ds).map (i :: ·)
  | _ :: _ => none
theorem ints_ok {B : Hp} : ∀ {ds : List D} {vs : List V} {ns : List Int}, DpAll K B vs ds → intsD ds = some ns → vs = ns.map V.int
  | [], _, _, h, e => by cases h; cases e; rfl
  | d :: ds, _, ns, h, e => by
    cases h with
    | cons h1 h2 =>
      cases d with
      | int i =>
        obtain ⟨ms, e1, e2⟩ := Option.map_eq_some_iff.mp (show (intsD ds).map (i :: ·) = some ns from e)
        subst e2
        rw [ints_ok h2 e1, dp_int h1]
        rfl
      | _ => cases e
theorem bools_ok {B : Hp} : ∀ {ds : List D} {vs : List V} {ns : List Bool}, DpAll K B vs ds → boolsD ds = some ns → vs = ns.map V.bl
  | [], _, _, h, e => by cases h; cases e; rfl
  | d :: ds, _, ns, h, e => by
    cases h with
    | cons h1 h2 =>
      cases d with
      | bool i =>
        obtain ⟨ms, e1, e2⟩ := Option.map_eq_some_iff.mp (show (boolsD ds).map (i :: ·) = some ns from e)
        subst e2
        rw [bools_ok h2 e1, dp_bool h1]
        rfl
      | _ => cases e
theorem intsD_map : ∀ ns : List Int, intsD (ns.map PyData.int) = some ns
  | [] => rfl
  | n :: ns => by
    show (intsD (ns.map PyData.int)).map (n :: ·) = _
    rw [intsD_map ns]
    rfl
theorem boolsD_map : ∀ ns : List Bool, boolsD (ns.map PyData.bool) = some ns
  | [] => rfl
  | n :: ns => by
    show (boolsD (ns.map PyData.bool)).map (n :: ·) = _
    rw [boolsD_map ns]
    rfl
def sumD : List D → Option D
  | [.list xs] => (intsD xs).map fun ns => .int ns.sum
  | _ => none
theorem d_sum : CallD K (rSum K) sumD := fun B H xs ds z Q s hx h q => by
  unfold sumD at h
  split at h
  · obtain ⟨ns, e1, e2⟩ := Option.map_eq_some_iff.mp h
    subst e2
    obtain ⟨x, rfl, h1⟩ := dpAll_1 hx
    obtain ⟨a, vs, rfl, g1, g2⟩ := dp_list h1
    refine ⟨a, ns, rfl, ?_, q _ B H (Grow.refl s) (.int _)⟩
    rw [← ints_ok g2 e1]
    exact SqL.of (s _ _ g1)
  · cases h
def maxL : List Int → Int
  | [] => 0
  | [x] => x
  | x :: y :: r => max x (maxL (y :: r))
def minL : List Int → Int
  | [] => 0
  | [x] => x
  | x :: y :: r => min x (minL (y :: r))
theorem maxL_spec : ∀ {ns : List Int}, ns ≠ [] → maxL ns ∈ ns ∧ ∀ y ∈ ns, y ≤ maxL ns
  | [], h => absurd rfl h
  | [x], _ => ⟨List.mem_cons_self, fun y hy => by
    have e : y = x := by simpa using hy
    subst e; exact Int.le_refl _⟩
  | x :: y :: r, _ => by
    obtain ⟨h1, h2⟩ := maxL_spec (ns := y :: r) (List.cons_ne_nil _ _)
    have e : maxL (x :: y :: r) = max x (maxL (y :: r)) := rfl
    rw [e]
    refine ⟨?_, fun z hz => ?_⟩
    · by_cases hc : x ≤ maxL (y :: r)
      · rw [Int.max_eq_right hc]; exact List.mem_cons_of_mem _ h1
      · rw [Int.max_eq_left (by omega)]; exact List.mem_cons_self
    · rcases List.mem_cons.mp hz with w | w
      · subst w; exact Int.le_max_left _ _
      · exact Int.le_trans (h2 z w) (Int.le_max_right _ _)
theorem minL_spec : ∀ {ns : List Int}, ns ≠ [] → minL ns ∈ ns ∧ ∀ y ∈ ns, minL ns ≤ y
  | [], h => absurd rfl h
  | [x], _ => ⟨List.mem_cons_self, fun y hy => by
    have e : y = x := by simpa using hy
    subst e; exact Int.le_refl _⟩
  | x :: y :: r, _ => by
    obtain ⟨h1, h2⟩ := minL_spec (ns := y :: r) (List.cons_ne_nil _ _)
    have e : minL (x :: y :: r) = min x (minL (y :: r)) := rfl
    rw [e]
    refine ⟨?_, fun z hz => ?_⟩
    · by_cases hc : x ≤ minL (y :: r)
      · rw [Int.min_eq_left hc]; exact List.mem_cons_self
      · rw [Int.min_eq_right (by omega)]; exact List.mem_cons_of_mem _ h1
    · rcases List.mem_cons.mp hz with w | w
      · subst w; exact Int.min_le_left _ _
      · exact Int.le_trans (Int.min_le_right _ _) (h2 z w)
def maxD : List D → Option D
  | [.list xs] => (intsD xs).bind fun ns => if ns = [] then none else some (.int (maxL ns))
  | [.int i, .int j] => some (.int (max i j))
  | _ => none
def minD : List D → Option D
  | [.list xs] => (intsD xs).bind fun ns => if ns = [] then none else some (.int (minL ns))
  | [.int i, .int j] => some (.int (min i j))
  | _ => none
abbrev rMaxA (K : PySem.W.Frag) : List V → Hp → VK → Prop := fun xs H Q => rMax K xs H Q ∨ (∃ i j, xs = [.int i, .int j] ∧ Q (.int (if j > i then j else i)) H)
abbrev rMinA (K : PySem.W.Frag) : List V → Hp → VK → Prop := fun xs H Q => rMin K xs H Q ∨ (∃ i j, xs = [.int i, .int j] ∧ Q (.int (if j < i then j else i)) H)
theorem call_maxA {X : Cx} (hc : X.calm = true) : CallR X (.builtin "max") (rMaxA X.K) := (cr_max hc).or (call_max2 hc)
theorem call_minA {X : Cx} (hc : X.calm = true) : CallR X (.builtin "min") (rMinA X.K) := (cr_min hc).or (call_min2 hc)
theorem d_max : CallD K (rMaxA K) maxD := fun B H xs ds z Q s hx h q => by
  unfold maxD at h
  split at h
  · obtain ⟨ns, e1, e2⟩ := Option.bind_eq_some_iff.mp h
    split at e2
    · cases e2
    · rename_i hne
      cases e2
      obtain ⟨x, rfl, h1⟩ := dpAll_1 hx
      obtain ⟨a, vs, rfl, g1, g2⟩ := dp_list h1
      refine .inl ⟨a, ns, rfl, ?_, List.length_pos_iff.mpr hne, fun m hm hle => ?_⟩
      · rw [← ints_ok g2 e1]
        exact SqL.of (s _ _ g1)
      · obtain ⟨k1, k2⟩ := maxL_spec hne
        have e : m = maxL ns := Int.le_antisymm (k2 m hm) (hle _ k1)
        rw [e]
        exact q _ B H (Grow.refl s) (.int _)
  · cases h
    rename_i i j
    obtain ⟨x, y, rfl, h1, h2⟩ := dpAll_2 hx
    rw [dp_int h1, dp_int h2]
    refine .inr ⟨i, j, rfl, ?_⟩
    have e : (if j > i then j else i) = max i j := by
      split
      · rw [Int.max_eq_right (by omega)]
      · rw [Int.max_eq_left (by omega)]
    rw [e]
    exact q _ B H (Grow.refl s) (.int _)
  · cases h
theorem d_min : CallD K (rMinA K) minD := fun B H xs ds z Q s hx h q => by
  unfold minD at h
  split at h
  · obtain ⟨ns, e1, e2⟩ := Option.bind_eq_some_iff.mp h
    split at e2
    · cases e2
    · rename_i hne
      cases e2
      obtain ⟨x, rfl, h1⟩ := dpAll_1 hx
      obtain ⟨a, vs, rfl, g1, g2⟩ := dp_list h1
      refine .inl ⟨a, ns, rfl, ?_, List.length_pos_iff.mpr hne, fun m hm hle => ?_⟩
      · rw [← ints_ok g2 e1]
        exact SqL.of (s _ _ g1)
      · obtain ⟨k1, k2⟩ := minL_spec hne
        have e : m = minL ns := Int.le_antisymm (hle _ k1) (k2 m hm)
        rw [e]
        exact q _ B H (Grow.refl s) (.int _)
  · cases h
    rename_i i j
    obtain ⟨x, y, rfl, h1, h2⟩ := dpAll_2 hx
    rw [dp_int h1, dp_int h2]
    refine .inr ⟨i, j, rfl, ?_⟩
    have e : (if j < i then j else i) = min i j := by
      split
      · rw [Int.min_eq_right (by omega)]
      · rw [Int.min_eq_left (by omega)]
    rw [e]
    exact q _ B H (Grow.refl s) (.int _)
  · cases h
def absD : List D → Option D
  | [.int i] => some (.int (if i < 0 then -i else i))
  | _ => none
theorem d_abs : CallD K (fun xs H Q => ∃ i, xs = [.int i] ∧ Q (.int (if i < 0 then -i else i)) H) absD := fun B H xs ds z Q s hx h q => by
  unfold absD at h
  split at h
  · cases h
    obtain ⟨x, rfl, h1⟩ := dpAll_1 hx
    rw [dp_int h1]
    exact ⟨_, rfl, q _ B H (Grow.refl s) (.int _)⟩
  · cases h
def intD : List D → Option D
  | [.int i] => some (.int i)
  | [.bool k] => some (.int (if k then 1 else 0))
  | _ => none
theorem d_int : CallD K (fun xs H Q => (∃ i, xs = [.int i] ∧ Q (.int i) H) ∨ ∃ k, xs = [.bl k] ∧ Q (.int (if k then 1 else 0)) H) intD := fun B H xs ds z Q s hx h q => by
  unfold intD at h
  split at h
  · cases h
    obtain ⟨x, rfl, h1⟩ := dpAll_1 hx
    rw [dp_int h1]
    exact .inl ⟨_, rfl, q _ B H (Grow.refl s) (.int _)⟩
  · cases h
    obtain ⟨x, rfl, h1⟩ := dpAll_1 hx
    rw [dp_bool h1]
    exact .inr ⟨_, rfl, q _ B H (Grow.refl s) (.int _)⟩
  · cases h
def anyD : List D → Option D
  | [.list xs] => (boolsD xs).map fun bs => .bool (bs.any id)
  | _ => none
def allD : List D → Option D
  | [.list xs] => (boolsD xs).map fun bs => .bool (bs.all id)
  | _ => none
theorem d_any : CallD K (rAny K) anyD := fun B H xs ds z Q s hx h q => by
  unfold anyD at h
  split at h
  · obtain ⟨ns, e1, e2⟩ := Option.map_eq_some_iff.mp h
    subst e2
    obtain ⟨x, rfl, h1⟩ := dpAll_1 hx
    obtain ⟨a, vs, rfl, g1, g2⟩ := dp_list h1
    refine ⟨a, ns, rfl, ?_, q _ B H (Grow.refl s) (.bl _)⟩
    rw [← bools_ok g2 e1]
    exact SqL.of (s _ _ g1)
  · cases h
theorem d_all : CallD K (rAll K) allD := fun B H xs ds z Q s hx h q => by
  unfold allD at h
  split at h
  · obtain ⟨ns, e1, e2⟩ := Option.map_eq_some_iff.mp h
    subst e2
    obtain ⟨x, rfl, h1⟩ := dpAll_1 hx
    obtain ⟨a, vs, rfl, g1, g2⟩ := dp_list h1
    refine ⟨a, ns, rfl, ?_, q _ B H (Grow.refl s) (.bl _)⟩
    rw [← bools_ok g2 e1]
    exact SqL.of (s _ _ g1)
  · cases h
/-- list(xs), list(t): always a new one -/
def sListOf (a : SA) : SL := fun ρ c => (a ρ c).bind fun p => match p.1 with
  | [.list xs] => some (xs, p.2)
  | [.tuple xs] => some (xs, p.2)
  | _ => none
abbrev rListOf (K : PySem.W.Frag) : List V → Hp → VK → Prop := fun xs H Q => ∃ p ys, xs = [.ref p] ∧ (SqL K H p ys ∨ SqT K H p ys) ∧ ∀ l, H l = none → Q (.ref l) (upd H l (.lst ys))
theorem imp_listOf {t : TA} {a : SA} (h : ImpA K t a) : ImpL K (tCB (rListOf K) t) (sListOf a) := fun ad B σ H ρ c ds c' Q R e q => by
  obtain ⟨⟨xs, c1⟩, e1, e2⟩ := Option.bind_eq_some_iff.mp e
  refine h ad B σ H ρ c xs c1 _ R e1 fun vs B1 H1 x dv => ?_
  split at e2
  · rename_i p ys e3
    have e3' : xs = [.list ys] := e3
    subst e3'
    cases e2
    obtain ⟨v, rfl, h1⟩ := dpAll_1 dv
    obtain ⟨a, us, rfl, g1, g2⟩ := dp_list h1
    exact ⟨a, us, rfl, .inl (SqL.of (x.bh _ _ g1)), fun l hl => q l us B1 _ H1 x hl rfl g2⟩
  · rename_i p ys e3
    have e3' : xs = [.tuple ys] := e3
    subst e3'
    cases e2
    obtain ⟨v, rfl, h1⟩ := dpAll_1 dv
    obtain ⟨a, us, rfl, g1, g2⟩ := dp_tuple h1
    exact ⟨a, us, rfl, .inr (SqT.of (x.bh _ _ g1)), fun l hl => q l us B1 _ H1 x hl rfl g2⟩
  · cases e2
def tupleD : List D → Option D
  | [.list xs] => some (.tuple xs)
  | [.tuple xs] => some (.tuple xs)
  | _ => none
theorem d_tuple : CallD K (fun xs H Q => ∃ p ys, xs = [.ref p] ∧ ((SqL K H p ys ∧ ∀ l, H l = none → Q (.ref l) (upd H l (.tup ys))) ∨ (SqT K H p ys ∧ Q (.ref p) H))) tupleD := fun B H xs ds z Q s hx h q => by
  unfold tupleD at h
  split at h
  · cases h
    obtain ⟨x, rfl, h1⟩ := dpAll_1 hx
    obtain ⟨a, vs, rfl, g1, g2⟩ := dp_list h1
    refine ⟨a, vs, rfl, .inl ⟨SqL.of (s _ _ g1), fun p np => ?_⟩⟩
    obtain ⟨g, dd⟩ := Grow.newTup s np g2
    exact q _ _ _ g dd
  · cases h
    obtain ⟨x, rfl, h1⟩ := dpAll_1 hx
    obtain ⟨a, vs, rfl, g1, g2⟩ := dp_tuple h1
    exact ⟨a, vs, rfl, .inr ⟨SqT.of (s _ _ g1), q _ B H (Grow.refl s) (.tup g1 g2)⟩⟩
  · cases h
/-! lists made by display, +, * -/
def sDispL (a : SA) : SL := fun ρ c => (a ρ c).bind fun p => if few p.1.length = true then some p else none
theorem imp_dispL {t : TA} {a : SA} (h : ImpA K t a) : ImpL K (tLst t) (sDispL a) := fun ad B σ H ρ c ds c' Q R e q => by
  obtain ⟨⟨xs, c1⟩, e1, e2⟩ := Option.bind_eq_some_iff.mp e
  split at e2
  · rename_i hz
    cases e2
    exact h ad B σ H ρ c ds c' _ R e1 fun vs B1 H1 x dv => ⟨by rw [dpAll_len dv]; exact few_line hz, fun p np => q p vs B1 _ H1 x np rfl dv⟩
  · cases e2
/-- [a] * n -/
def sRepL (a : SL) (b : SE) : SL := fun ρ c => (a ρ c).bind fun p => (b ρ p.2).bind fun q => match q.1 with
  | .int k => if few p.1.length = true ∧ p.1.length * k.toNat ≤ 1000000 ∧ -1000000 ≤ k ∧ k ≤ 1000000 then some ((List.replicate k.toNat p.1).flatten, q.2) else none
  | _ => none
theorem imp_repL {t u : TE} {a : SL} {b : SE} (h : ImpL K t a) (hb : ImpE K u b) : ImpL K (tOp (rMulA K) t u) (sRepL a b) := fun ad B σ H ρ c ds c' Q R e q => by
  obtain ⟨⟨xs, c1⟩, e1, e2⟩ := Option.bind_eq_some_iff.mp e
  obtain ⟨⟨kd, c2⟩, e3, e4⟩ := Option.bind_eq_some_iff.mp e2
  cases kd with
  | int k =>
    have e4' : (if few xs.length = true ∧ xs.length * k.toNat ≤ 1000000 ∧ -1000000 ≤ k ∧ k ≤ 1000000 then some ((List.replicate k.toNat xs).flatten, c2) else none) = some (ds, c') := e4
    split at e4'
    · rename_i hz
      cases e4'
      obtain ⟨z1, z2, z3, z4⟩ := hz
      refine h ad B σ H ρ c xs c1 _ R e1 fun p vs B1 H1' H1 x np eH dv => ?_
      subst eH
      have R1 := R.fw x
      have g := Grow.new (o := .lst vs) x.bh np
      have x1 := R.trans x (g.fw x.cell)
      refine hb ad _ σ _ ρ c1 (.int k) _ _ (R.fw x1) e3 fun w B2 H2 y dw => ?_
      have nad : ad ≠ some p := fun e => by rw [x.cell p e] at np; cases np
      have hp : H2 p = some (.lst vs) := y.keep p _ nad upd_same
      refine .inr (.inl ⟨p, k, vs, rfl, dp_int dw, hp, by omega, by omega, by rw [dpAll_len dv, sizeLine_eq]; omega, fun l nl => ?_⟩)
      exact q l _ B2 _ H2 (R.trans x1 y) nl rfl (dpAll_rep (dpAll_mono (g.bb.trans y.bb) _ _ dv) _)
    · cases e4'
  | _ => cases e4
end
end DL
/-! DLi: enumerate and zip of lists and tuples in any mix. -/
namespace DL
open PySem PySem.Spec L2
open AutoSeq1 (wpAny_loadPart')
/-- a list, or (t) a tuple -/
def SqK (t : Bool) (K : PySem.W.Frag) (H : Hp) (a : Addr) (xs : List V) : Prop := if t = true then SqT K H a xs else SqL K H a xs
def itIs (t : Bool) (h : Heap) (it a : Addr) (i : Nat) : Prop := if t = true then h.IsTupleIter it a i else h.IsListIter it a i
def isSq (t : Bool) (h : Heap) (a : Addr) (its : Array Value) : Prop := if t = true then h.IsTuple a its else h.IsList a its
def itObj (t : Bool) (a : Addr) : Obj := if t = true then { cls := .type "tuple_iterator", data := .fields #[.ref a, .int 0 0] } else { cls := .type "list_iterator", data := .fields #[.ref a, .int 0 0] }
theorem drawsB (t : Bool) {prog : Program} {w : World} {A : Around} (hh : A.handled = none) (it a : Addr) (hne : a ≠ it) (items : Array Value) :
    Draws prog w A it [it, a] items.size (fun i v => items[i]? = some v) (fun i h => itIs t h it a i ∧ isSq t h a items) := by
  cases t with
  | true => exact Draws.tuple hh it a hne items
  | false => exact Draws.list hh it a hne items
theorem beginsB (t : Bool) (a : Addr) (items : Array Value) : Begins (.ref a) (itObj t a) fun h => isSq t h a items := by
  cases t with
  | true => exact begins_tuple a items
  | false => exact begins_list a items
theorem itIs_of {t : Bool} {h : Heap} {it a : Addr} (e : h.get? it = some (itObj t a)) : itIs t h it a 0 := by
  cases t with
  | true => exact ⟨_, e, rfl, rfl⟩
  | false => exact ⟨_, e, rfl, rfl⟩
theorem itIs_obj {t : Bool} {h : Heap} {it a : Addr} {i : Nat} (e : itIs t h it a i) : ∃ o, h.get? it = some o ∧ ∀ v, o.data ≠ .cell v := by
  cases t with
  | true => obtain ⟨o, e1, _, d⟩ := (show h.IsTupleIter it a i from e); exact ⟨o, e1, fun v q => by rw [d] at q; cases q⟩
  | false => obtain ⟨o, e1, _, d⟩ := (show h.IsListIter it a i from e); exact ⟨o, e1, fun v q => by rw [d] at q; cases q⟩
theorem itIs_at {t : Bool} {h h' : Heap} {it a : Addr} {i : Nat} (e : itIs t h it a i) (k : ∀ o, h.get? it = some o → h'.get? it = some o) : itIs t h' it a i := by
  cases t with
  | true => exact (show h.IsTupleIter it a i from e).at k
  | false => exact (show h.IsListIter it a i from e).at k
theorem sqK_inv {t : Bool} {X : Cx} {pins : List (Addr × Obj)} {σ : L2.St} {H : Hp} {s : Shared} {a : Addr} {xs : List V} (I : L2.Inv X pins σ H s) (h : SqK t X.K H a xs) : ∃ its : List Value, Vals xs its ∧ isSq t s.heap a its.toArray ∧ ∃ o, s.heap.get? a = some o := by
  cases t with
  | true =>
    obtain ⟨its, r, p, _⟩ := I.tuple (show SqT X.K H a xs from h)
    obtain ⟨o, ho, _⟩ := id p
    exact ⟨its, r, p, o, ho⟩
  | false =>
    obtain ⟨its, r, p, _⟩ := I.list (show SqL X.K H a xs from h)
    obtain ⟨o, n, ho, _⟩ := id p
    exact ⟨its, r, p.isList, o, ho⟩
theorem sqK_inj {t : Bool} {X : Cx} {pins : List (Addr × Obj)} {σ : L2.St} {H : Hp} {s : Shared} {a : Addr} {xs ys : List V} (I : L2.Inv X pins σ H s) (h : SqK t X.K H a xs) (h' : SqK t X.K H a ys) : xs = ys := by
  cases t with
  | true => exact I.tuple_inj (show SqT X.K H a xs from h) (show SqT X.K H a ys from h')
  | false => exact I.list_inj (show SqL X.K H a xs from h) (show SqL X.K H a ys from h')
theorem isSq_lt {t : Bool} {h : Heap} {a : Addr} {its : Array Value} (e : isSq t h a its) : a < h.objs.size := by
  cases t with
  | true => obtain ⟨o, ho, _⟩ := (show h.IsTuple a its from e); exact Heap.lt_size ho
  | false => obtain ⟨o, ho, _⟩ := (show h.IsList a its from e); exact Heap.lt_size ho

/-! ### enumerate -/
set_option maxHeartbeats 4000000 in
theorem meets_enum_new1 {v : Value} {o : Obj} {H : Heap → Prop} (B : Begins v o H) :
    Meets (Builtin.«enumerate.__new__» ⟨[.type "enumerate", v], []⟩) (fun _ R s => H s.heap ∧
      R (.ok (.ret (.ref (s.heap.push o).objs.size))) { s with heap := (s.heap.push o).push { cls := .type "enumerate", data := .fields #[.none, .bool false, .ref s.heap.objs.size, rawInt 0, .none, .none] } }) :=
  .of_wp fun prog w A R s h => by
    obtain ⟨hp, g, d, tk, os⟩ := s
    obtain ⟨h1, h⟩ := h
    have hsub := sub_enumerate
    have q1 : ∀ {A' : Around} {E : Value → Shared → Prop} {Q : Value → Shared → Prop}, Q (.ref hp.objs.size) ⟨(hp.push o), g, d, tk, os⟩ → wpAny (model prog w) A' (pyIter v) Q E ⟨hp, g, d, tk, os⟩ :=
      fun q => B.iter prog w _ _ ⟨hp, g, d, tk, os⟩ _ h1 q
    wp_walk using q1
    refine wpAny_stack_any fun st => wpAny_pure ?_
    split
    · rename_i c _ _ _ _ _
      cases (c == Value.type "enumerate")
      · wp_walk using q1
        exact ⟨_, rfl, h⟩
      · wp_walk using q1
        exact ⟨_, rfl, h⟩
    · wp_walk using q1
      exact ⟨_, rfl, h⟩
theorem enum_begins1 {prog : Program} {w : World} {A : Around} {E : Value → Shared → Prop} {s : Shared} {v : Value} {o : Obj} {H : Heap → Prop} {Q : Value → Shared → Prop} (B : Begins v o H) (h1 : H s.heap)
    (h : ∀ h', IsEnum h' (s.heap.objs.size + 1) s.heap.objs.size 0 .none → h'.get? s.heap.objs.size = some o → h'.objs.size = s.heap.objs.size + 2 →
      (∀ b o, s.heap.get? b = some o → h'.get? b = some o) → Q (.ref (s.heap.objs.size + 1)) { s with heap := h' }) :
    wpAny (model prog w) A (call (.type "enumerate") [v]) Q E s := by
  refine callType_new F.called_enumerate (by decide) (F.typeCall_enumerate_1 _) (F.newCall_enumerate_1 _) (fun obj => F.args_object_init_2 obj _) F.entry_enumerate_new
    (meets_enum_new1 B) ⟨h1, ?_⟩
  have hz : (s.heap.push o).objs.size = s.heap.objs.size + 1 := Heap.size_push ..
  show _ ∧ _
  rw [hz]
  have he : IsEnum ((s.heap.push o).push { cls := .type "enumerate", data := .fields #[.none, .bool false, .ref s.heap.objs.size, rawInt 0, .none, .none] }) (s.heap.objs.size + 1) s.heap.objs.size 0 .none := by
    have := Heap.get?_push_size (s.heap.push o) (o := { cls := .type "enumerate", data := .fields #[.none, .bool false, .ref s.heap.objs.size, rawInt 0, .none, .none] }) rfl
    rw [hz] at this; exact this
  refine ⟨⟨_, he, rfl⟩, h _ he (Heap.get?_push_of_some _ (Heap.get?_push_size _ B.free)) (by rw [Heap.size_push, hz]) fun b o x => Heap.get?_push_of_some _ (Heap.get?_push_of_some _ x)⟩
def IteK (t : Bool) (K : PySem.W.Frag) (a : Addr) : It :=
  ⟨fun i H => ∃ (xs : List V) (x : V), SqK t K H a xs ∧ xs[i]? = some x, fun i H v H' => ∃ T x, v = .ref T ∧ H T = none ∧ H' = upd H T (.tup [.int (i : Nat), x]) ∧ ∀ xs, SqK t K H a xs → xs[i]? = some x, fun i H => ∃ xs : List V, SqK t K H a xs ∧ xs.length = i⟩
theorem turn_enumK (t : Bool) {P : Program} {w : World} {K : PySem.W.Frag} {elts : List Expr} {kk : Nat} {tpos : Pos} (a e it : Addr) (hea : e ≠ a) (hai : a ≠ it) :
    Turn P w K (.Tuple elts kk tpos) (IteK t K a) [e, it] e (fun i h => (∃ old, IsEnum h e it ((i : Nat) : Int) old) ∧ itIs t h it a i ∧ e ≠ it) where
  mem := by simp
  obj := fun i h st b hb => by
    obtain ⟨⟨old, he⟩, hi, _⟩ := st
    have e' : b = e ∨ b = it := by simpa using hb
    rcases e' with z | z
    · rw [z]; exact ⟨_, he, fun v q => nomatch q⟩
    · rw [z]; exact itIs_obj hi
  keep := fun i h h' st k => let ⟨⟨old, he⟩, hi, hne⟩ := st; ⟨⟨old, k e (by simp) _ he⟩, itIs_at hi fun o q => k it (by simp) o q, hne⟩
  item := by
    intro X hP hw hK hc i pins s σ H E I hf st hg
    subst hP hw hK
    obtain ⟨⟨old, he⟩, hit, hne⟩ := st
    obtain ⟨xs, x, hq, hx⟩ := hg
    obtain ⟨its, rv, p, _⟩ := sqK_inv I hq
    obtain ⟨u, hu, ru⟩ := rv.get hx
    have hel : e < s.heap.objs.size := Heap.lt_size he
    have hil : it < s.heap.objs.size := by obtain ⟨_, q, _⟩ := itIs_obj hit; exact Heap.lt_size q
    have hlt : i < its.toArray.size := by rw [List.size_toArray]; exact (List.getElem?_eq_some_iff.mp hu).1
    refine wpAny_pyNext_enum_itemC (drawsB t (A := X.A.in1) (I.ok.hd hc) it a hai its.toArray) he ⟨hit, p⟩ hlt hne (by simp [hne, hea]) fun u' h' tk hu' ho st' hT hsz hk => ?_
    have eu : u' = u := by
      have h1 : its.toArray[i]? = some u' := hu'
      have h2 : its.toArray[i]? = some u := by simpa using hu
      rw [h1] at h2; exact Option.some.inj h2
    subst eu
    refine ⟨_, rfl, wpAny_letOwnedTupleGo_enum (s := { s with heap := h', toks := tk + 1 }) ho fun h'' he' sb => ?_⟩
    have hT2 : h''.get? s.heap.objs.size = some { cls := .type "tuple", data := .seq #[.int i tk, u'] } := (sb.2 _ (Nat.ne_of_gt hel)).trans hT
    have new : ObjOk X.prog X.w (upd H s.heap.objs.size (.tup [.int (i : Nat), x])) h'' s.heap.objs.size (.tup [.int (i : Nat), x]) :=
      ⟨by show 2 ≤ sizeLine; decide, [.int i tk, u'], .cons ⟨_, rfl⟩ (.cons ru .nil), ⟨_, hT2, rfl, _, rfl⟩⟩
    have I1 : L2.Inv X pins σ (upd H s.heap.objs.size (.tup [.int (i : Nat), x])) { s with heap := h'', toks := tk + 1 } :=
      I.turnedNew (ch := [e, it]) (fun b ob hb q => (sb.2 b (fun z => hb (by simp [z]))).trans (hk b ob (fun z => hb (by simp [z])) (fun z => hb (by simp [z])) q)) hf (Nat.le_refl _) new
    refine ⟨.ref s.heap.objs.size, _, I1, rfl, ⟨_, x, rfl, I.hok.fresh (Nat.le_refl _), rfl, fun ys hy => by rw [sqK_inj I hy hq]; exact hx⟩, ⟨⟨u', ?_⟩, itIs_at st'.1 fun o q => (sb.2 it (Ne.symm hne)).trans q, hne⟩, fun b hb => ?_⟩
    · have e1 : ((i + 1 : Nat) : Int) = (i : Int) + 1 := by omega
      rw [e1]; exact he'
    · have hb' : b < s.heap.objs.size := by
        have e' : b = e ∨ b = it := by simpa using hb
        rcases e' with z | z
        · rw [z]; exact hel
        · rw [z]; exact hil
      rw [upd_ne (Nat.ne_of_lt hb')]
      exact (hf b hb).1
  done := by
    intro X hP hw hK hc i pins s σ H E I hf st hg
    subst hP hw hK
    obtain ⟨⟨old, he⟩, hit, hne⟩ := st
    obtain ⟨xs, hq, hx⟩ := hg
    obtain ⟨its, rv, p, _⟩ := sqK_inv I hq
    obtain ⟨f0, f1, f2, f3, f4, f5⟩ := hf it (by simp)
    have hl := rv.length
    have ei : i = its.toArray.size := by rw [List.size_toArray]; omega
    subst ei
    exact wpAny_pyNext_enum_endD (drawsB t (A := X.A.in1) (I.ok.hd hc) it a hai its.toArray) he ⟨hit, p⟩ fun h' eb => ⟨rfl, I.turned (t' := s.toks) (fun b o hb q => eb b o hb q) f0 f1 f3 f4 f5⟩
  self := fun A i s Q E st h => let ⟨⟨_, he⟩, _⟩ := st; wpAny_pyIter_enum he h
def iEnumK (K : PySem.W.Frag) (ta : TA) : TI := fun σ H R => ta σ H fun vs H1 => ∃ (t : Bool) (a : Addr) (xs : List V), vs = [.ref a] ∧ SqK t K H1 a xs ∧ R (IteK t K a) H1
theorem pi_enumK {X : Cx} {e : Expr} {ta : TA} {p pos tpos : Pos} {elts : List Expr} {kk : Nat} (hg : Gl X "enumerate") (hm : X.mg "enumerate" = none) (ha : PA X [e] ta) (hs : starEach [e] X.env = [(false, eval e X.env)] := by rfl) :
    PI X (.Tuple elts kk tpos) (.Call (.Name "enumerate" p) [e] [] pos) (iEnumK X.K ta) := by
  refine ⟨fun pins s σ H R I h => ?_⟩
  refine PyProof.Rows.Call_ (ld_blt I hg hm PyProof.Rows.boot_enumerate (PyProof.Rows.callWith_type1 (thn (ha.run pos pins s σ H _ I h) fun us s1 ⟨vs, H1, I1, r1, q1⟩ => ?_) hs rfl))
  obtain ⟨t, a, xs, ex, hq, q⟩ := q1
  subst ex
  cases r1 with
  | cons r rr =>
    cases rr
    cases r
    obtain ⟨its, rv, p', oo, hoo⟩ := sqK_inv I1 hq
    have hlt : a < s1.heap.objs.size := Heap.lt_size hoo
    refine enum_begins1 (beginsB t a its.toArray) p' fun h' he hit hsz hk => wpAny_pyIter_enum he ?_
    have I2 : L2.Inv X pins σ H1 { s1 with heap := h' } := I1.kept (t' := s1.toks) hk
    refine ⟨s1.heap.objs.size + 1, [s1.heap.objs.size + 1, s1.heap.objs.size], _, _, H1, rfl, I2, turn_enumK t a (s1.heap.objs.size + 1) s1.heap.objs.size (Nat.ne_of_gt (Nat.lt_succ_of_lt hlt)) (Nat.ne_of_lt hlt), ⟨⟨.none, he⟩, itIs_of hit, Nat.succ_ne_self _⟩, fun b hb => ?_, q⟩
    have e' : b = s1.heap.objs.size + 1 ∨ b = s1.heap.objs.size := by simpa using hb
    have hle : s1.heap.objs.size ≤ b := by
      rcases e' with z | z
      · rw [z]; exact Nat.le_add_right _ _
      · rw [z]; exact Nat.le_refl _
    exact I1.fpOk hle (I1.hok.fresh hle)

/-! ### zip -/
def ItzK (t u : Bool) (K : PySem.W.Frag) (a b : Addr) : It :=
  ⟨fun i H => ∃ (xs ys : List V) (x y : V), SqK t K H a xs ∧ SqK u K H b ys ∧ xs[i]? = some x ∧ ys[i]? = some y,
    fun i H v H' => ∃ T x y, v = .ref T ∧ H T = none ∧ H' = upd H T (.tup [x, y]) ∧ (∀ xs, SqK t K H a xs → xs[i]? = some x) ∧ ∀ ys, SqK u K H b ys → ys[i]? = some y,
    fun i H => ∃ xs ys : List V, SqK t K H a xs ∧ SqK u K H b ys ∧ i ≤ xs.length ∧ i ≤ ys.length ∧ (i = xs.length ∨ i = ys.length)⟩
theorem turn_zipK (t u : Bool) {P : Program} {w : World} {K : PySem.W.Frag} {elts : List Expr} {kk : Nat} {tpos : Pos} {a b z TI TO i1 i2 : Addr} (S : ZipSep2 z TI TO i1 i2 [i1, a] [i2, b]) (hai : a ≠ i1) (hbi : b ≠ i2) :
    Turn P w K (.Tuple elts kk tpos) (ItzK t u K a b) [z, TI, TO, i1, i2] z (fun i h => IsZip h z TI TO .none ∧ IsTupOf2 h TI (.ref i1) (.ref i2) ∧ (∃ x y, IsTupOf2 h TO x y) ∧ itIs t h i1 a i ∧ itIs u h i2 b i) where
  mem := by simp
  obj := fun i h st c hc => by
    obtain ⟨hz, hTI, ⟨x, y, hTO⟩, h1, h2⟩ := st
    have e' : c = z ∨ c = TI ∨ c = TO ∨ c = i1 ∨ c = i2 := by simpa using hc
    rcases e' with q | q | q | q | q
    · rw [q]; exact ⟨_, hz, fun v q => nomatch q⟩
    · rw [q]; exact ⟨_, hTI, fun v q => nomatch q⟩
    · rw [q]; exact ⟨_, hTO, fun v q => nomatch q⟩
    · rw [q]; exact itIs_obj h1
    · rw [q]; exact itIs_obj h2
  keep := fun i h h' st k => by
    obtain ⟨hz, hTI, ⟨x, y, hTO⟩, h1, h2⟩ := st
    exact ⟨k z (by simp) _ hz, k TI (by simp) _ hTI, ⟨x, y, k TO (by simp) _ hTO⟩, itIs_at h1 fun o q => k i1 (by simp) o q, itIs_at h2 fun o q => k i2 (by simp) o q⟩
  item := by
    intro X hP hw hK hc i pins s σ H E I hf st hg
    subst hP hw hK
    obtain ⟨hz, hTI, ⟨x0, y0, hTO⟩, h1, h2⟩ := st
    obtain ⟨xs, ys, x, y, hqx, hqy, hx, hy⟩ := hg
    obtain ⟨its, rv, p, _⟩ := sqK_inv I hqx
    obtain ⟨its2, rv2, p2, _⟩ := sqK_inv I hqy
    obtain ⟨v1, hu, ru⟩ := rv.get hx
    obtain ⟨v2, hu2, ru2⟩ := rv2.get hy
    have hzl : z < s.heap.objs.size := Heap.lt_size hz
    have lt1 : i < its.toArray.size := by rw [List.size_toArray]; exact (List.getElem?_eq_some_iff.mp hu).1
    have lt2 : i < its2.toArray.size := by rw [List.size_toArray]; exact (List.getElem?_eq_some_iff.mp hu2).1
    refine wpAny_pyNext_zipD2_item S (drawsB t (A := X.A.in1) (I.ok.hd hc) i1 a hai its.toArray) (drawsB u (A := X.A.in1) (I.ok.hd hc) i2 b hbi its2.toArray) hz hTI hTO ⟨h1, p⟩ ⟨h2, p2⟩ lt1 lt2 fun w1 w2 h' tk e1 e2 z' TO' h1' h2' hT hsz hk => ?_
    have ew1 : w1 = v1 := by
      have k1 : its.toArray[i]? = some w1 := e1
      have k2 : its.toArray[i]? = some v1 := by simpa using hu
      rw [k1] at k2; exact Option.some.inj k2
    have ew2 : w2 = v2 := by
      have k1 : its2.toArray[i]? = some w2 := e2
      have k2 : its2.toArray[i]? = some v2 := by simpa using hu2
      rw [k1] at k2; exact Option.some.inj k2
    subst ew1 ew2
    refine ⟨_, rfl, wpAny_letOwnedTupleGo_zip (s := { s with heap := h', toks := tk }) z' fun h'' z'' sb => ?_⟩
    have hT2 : h''.get? s.heap.objs.size = some { cls := .type "tuple", data := .seq #[w1, w2] } := (sb.2 _ (Nat.ne_of_gt hzl)).trans hT
    have new : ObjOk X.prog X.w (upd H s.heap.objs.size (.tup [x, y])) h'' s.heap.objs.size (.tup [x, y]) :=
      ⟨by show 2 ≤ sizeLine; decide, [w1, w2], .cons ru (.cons ru2 .nil), ⟨_, hT2, rfl, _, rfl⟩⟩
    have I1 : L2.Inv X pins σ (upd H s.heap.objs.size (.tup [x, y])) { s with heap := h'', toks := tk } :=
      I.turnedNew (t' := tk) (ch := [z, TI, TO, i1, i2]) (fun c o hb q => (sb.2 c (fun q' => hb (by simp [q']))).trans (hk c o (fun q' => hb (by simp [q'])) (fun q' => hb (by simp [q'])) (fun q' => hb (by simp [q'])) (fun q' => hb (by simp [q'])) q)) hf (Nat.le_refl _) new
    refine ⟨.ref s.heap.objs.size, _, I1, rfl, ⟨_, x, y, rfl, I.hok.fresh (Nat.le_refl _), rfl, fun l hl => by rw [sqK_inj I hl hqx]; exact hx, fun l hl => by rw [sqK_inj I hl hqy]; exact hy⟩, ⟨z'', ?_, ⟨w1, w2, ?_⟩, ?_, ?_⟩, fun c hcm => ?_⟩
    · exact (sb.2 _ S.TIz).trans (hk _ _ S.TIz S.TITO S.TIi1 S.TIi2 hTI)
    · exact (sb.2 _ S.TOz).trans TO'
    · exact itIs_at h1'.1 fun o q => (sb.2 _ (Ne.symm S.zi1)).trans q
    · exact itIs_at h2'.1 fun o q => (sb.2 _ (Ne.symm S.zi2)).trans q
    · have hlt : c < s.heap.objs.size := by
        have e' : c = z ∨ c = TI ∨ c = TO ∨ c = i1 ∨ c = i2 := by simpa using hcm
        rcases e' with q | q | q | q | q
        · rw [q]; exact hzl
        · rw [q]; exact Heap.lt_size hTI
        · rw [q]; exact Heap.lt_size hTO
        · rw [q]; obtain ⟨_, e1, _⟩ := itIs_obj h1; exact Heap.lt_size e1
        · rw [q]; obtain ⟨_, e2, _⟩ := itIs_obj h2; exact Heap.lt_size e2
      rw [upd_ne (Nat.ne_of_lt hlt)]
      exact (hf c hcm).1
  done := by
    intro X hP hw hK hc i pins s σ H E I hf st hg
    subst hP hw hK
    obtain ⟨hz, hTI, ⟨x0, y0, hTO⟩, h1, h2⟩ := st
    obtain ⟨xs, ys, hqx, hqy, hle1, hle2, hend⟩ := hg
    obtain ⟨its, rv, p, _⟩ := sqK_inv I hqx
    obtain ⟨its2, rv2, p2, _⟩ := sqK_inv I hqy
    have l1 := rv.length
    have l2 := rv2.length
    exact wpAny_pyNext_zipD2_end S (drawsB t (A := X.A.in1) (I.ok.hd hc) i1 a hai its.toArray) (drawsB u (A := X.A.in1) (I.ok.hd hc) i2 b hbi its2.toArray) hz hTI hTO ⟨h1, p⟩ ⟨h2, p2⟩
      (by rw [List.size_toArray]; omega) (by rw [List.size_toArray]; omega) (by rw [List.size_toArray, List.size_toArray]; omega) fun h' tk hk => ⟨rfl, I.turnedL (t' := tk) (ch := [z, TI, TO, i1, i2]) (fun c o hb q =>
      hk c o (fun q' => hb (by simp [q'])) (fun q' => hb (by simp [q'])) (fun q' => hb (by simp [q'])) (fun q' => hb (by simp [q'])) q) hf⟩
  self := fun A i s Q E st h => wpAny_pyIter_zip st.1 h
def iZipK (K : PySem.W.Frag) (ta : TA) : TI := fun σ H R => ta σ H fun vs H1 => ∃ (t u : Bool) (a b : Addr) (xs ys : List V), vs = [.ref a, .ref b] ∧ SqK t K H1 a xs ∧ SqK u K H1 b ys ∧ R (ItzK t u K a b) H1
theorem pi_zipK {X : Cx} {e e2 : Expr} {ta : TA} {p pos tpos : Pos} {elts : List Expr} {kk : Nat} (hg : Gl X "zip") (hm : X.mg "zip" = none) (ha : PA X [e, e2] ta)
    (hs : starEach [e, e2] X.env = (false, eval e X.env) :: starEach [e2] X.env := by rfl) (hpl : (backTo pos (starEach [e2] X.env)).any (·.1) = false := by rfl) :
    PI X (.Tuple elts kk tpos) (.Call (.Name "zip" p) [e, e2] [] pos) (iZipK X.K ta) := by
  refine ⟨fun pins s σ H R I h => ?_⟩
  refine PyProof.Rows.Call_ (ld_blt I hg hm PyProof.Rows.boot_zip (PyProof.Rows.callWith_type1 (thn (ha.run pos pins s σ H _ I h) fun us s1 ⟨vs, H1, I1, r1, q1⟩ => ?_) hs hpl))
  obtain ⟨t, u, a, b, xs, ys, ex, hqx, hqy, q⟩ := q1
  subst ex
  cases r1 with
  | cons r rr =>
    cases rr with
    | cons r' rr =>
      cases rr
      cases r
      cases r'
      obtain ⟨its, rv, p1, oa, hoa⟩ := sqK_inv I1 hqx
      obtain ⟨its2, rv2, p2, ob, hob⟩ := sqK_inv I1 hqy
      have la : a < s1.heap.objs.size := Heap.lt_size hoa
      have lb : b < s1.heap.objs.size := Heap.lt_size hob
      refine zip_begins2 (beginsB t a its.toArray) (beginsB u b its2.toArray) p1 p2 fun h' hz hTI hTO h1 h2 hsz hk => wpAny_pyIter_zip hz ?_
      have I2 : L2.Inv X pins σ H1 { s1 with heap := h' } := I1.kept (t' := s1.toks) hk
      generalize hN : s1.heap.objs.size = N at *
      have nla : ∀ k, a ≠ N + k := fun k e => by rw [e] at la; exact absurd la (Nat.not_lt.mpr (Nat.le_add_right _ _))
      have nlb : ∀ k, b ≠ N + k := fun k e => by rw [e] at lb; exact absurd lb (Nat.not_lt.mpr (Nat.le_add_right _ _))
      have nk : ∀ k j : Nat, k ≠ j → (N + k : Nat) ≠ N + j := fun k j h e => h (Nat.add_left_cancel e)
      have S : ZipSep2 (N + 4) (N + 2) (N + 3) N (N + 1) [N, a] [N + 1, b] := by
        refine ⟨nk 2 4 (by decide), nk 3 4 (by decide), nk 2 3 (by decide), nk 2 0 (by decide), List.mem_cons_self, ?_, ?_, nk 2 1 (by decide), List.mem_cons_self, ?_, ?_, ?_, ?_⟩
        · intro hm
          rcases List.mem_cons.mp hm with e | hm
          · exact nk 4 0 (by decide) e
          · exact nla 4 (List.mem_singleton.mp hm).symm
        · intro hm
          rcases List.mem_cons.mp hm with e | hm
          · exact nk 3 0 (by decide) e
          · exact nla 3 (List.mem_singleton.mp hm).symm
        · intro hm
          rcases List.mem_cons.mp hm with e | hm
          · exact nk 4 1 (by decide) e
          · exact nlb 4 (List.mem_singleton.mp hm).symm
        · intro hm
          rcases List.mem_cons.mp hm with e | hm
          · exact nk 3 1 (by decide) e
          · exact nlb 3 (List.mem_singleton.mp hm).symm
        · intro hm
          rcases List.mem_cons.mp hm with e | hm
          · exact nk 0 1 (by decide) e
          · exact nlb 0 (List.mem_singleton.mp hm).symm
        · intro hm
          rcases List.mem_cons.mp hm with e | hm
          · exact nk 1 0 (by decide) e
          · exact nla 1 (List.mem_singleton.mp hm).symm
      refine ⟨N + 4, [N + 4, N + 2, N + 3, N, N + 1], _, _, H1, rfl, I2, turn_zipK t u S (nla 0) (nlb 1), ⟨hz, hTI, ⟨_, _, hTO⟩, itIs_of h1, itIs_of h2⟩, fun c hcm => ?_, q⟩
      have e' : c = N + 4 ∨ c = N + 2 ∨ c = N + 3 ∨ c = N ∨ c = N + 1 := by simpa using hcm
      have hle : N ≤ c := by
        rcases e' with z | z | z | z | z
        · rw [z]; exact Nat.le_add_right _ _
        · rw [z]; exact Nat.le_add_right _ _
        · rw [z]; exact Nat.le_add_right _ _
        · rw [z]; exact Nat.le_refl _
        · rw [z]; exact Nat.le_add_right _ _
      rw [← hN] at hle
      exact I1.fpOk hle (I1.hok.fresh hle)
section
variable {K : PySem.W.Frag}
/-! ### on data -/
def seqD : D → Option (List D)
  | .list xs => some xs
  | .tuple xs => some xs
  | _ => none
theorem seqD_ok {B H : Hp} {v : V} {d : D} {xs : List D} (s : Same B H) (h : Dp K B v d) (e : seqD d = some xs) : ∃ (t : Bool) (a : Addr) (vs : List V), v = .ref a ∧ DpAll K B vs xs ∧ ∀ H2, Same B H2 → SqK t K H2 a vs := by
  cases h with
  | @lst a vs ds h1 h2 => cases e; exact ⟨false, a, vs, rfl, h2, fun H2 m => SqL.of (m _ _ h1)⟩
  | @tup a vs ds h1 h2 => cases e; exact ⟨true, a, vs, rfl, h2, fun H2 m => SqT.of (m _ _ h1)⟩
  | _ => cases e
def enumL (xs : List D) : List D := (xs.zipIdx).map fun p => .tuple [.int (p.2 : Nat), p.1]
def sEnum (a : SE) : SI := fun ρ c => (a ρ c).bind fun p => (seqD p.1).bind fun xs => some (enumL xs, p.2)
theorem imp_enum {t : TE} {a : SE} (h : ImpE K t a) : ImpI K (iEnumK K (tCons t tNil)) (sEnum a) := fun ad B σ H ρ c xs c' Q R e q => by
  obtain ⟨⟨d, c1⟩, e1, e2⟩ := Option.bind_eq_some_iff.mp e
  obtain ⟨ys, e3, e4⟩ := Option.bind_eq_some_iff.mp e2
  cases e4
  refine h ad B σ H ρ c d _ _ R e1 fun v B' H' x dv => ?_
  obtain ⟨t, a, vs, rfl, s1, s2⟩ := seqD_ok x.bh dv e3
  refine ⟨t, a, vs, rfl, s2 _ x.bh, q _ B' H' x fun B2 H2 m1 m2 => ?_⟩
  have sq := s2 H2 (m1.trans m2)
  have hl : (enumL ys).length = ys.length := by unfold enumL; rw [List.length_map, List.length_zipIdx]
  refine ⟨⟨vs, sq, by rw [hl, dpAll_len s1]⟩, fun i d hd => ?_⟩
  unfold enumL at hd
  rw [List.getElem?_map, List.getElem?_zipIdx] at hd
  obtain ⟨p, e5, e6⟩ := Option.map_eq_some_iff.mp hd
  obtain ⟨y, e7, e8⟩ := Option.map_eq_some_iff.mp e5
  subst e8
  subst e6
  obtain ⟨w, g1, g2⟩ := dpAll_get s1 e7
  refine ⟨⟨vs, w, sq, g1⟩, fun z H3 hy => ?_⟩
  obtain ⟨T, x', rfl, nT, rfl, f⟩ := hy
  have ex := (f vs sq).symm.trans g1
  cases ex
  obtain ⟨g, dd⟩ := Grow.newTup (K := K) (vs := [.int (i : Nat), w]) (ds := [.int ((0 + i : Nat) : Int), y]) m2 nT (.cons (by rw [Nat.zero_add]; exact .int _) (.cons (dp_mono m1 _ _ g2) .nil))
  exact ⟨_, g, dd⟩
def zipL : List D → List D → List D
  | x :: xs, y :: ys => .tuple [x, y] :: zipL xs ys
  | _, _ => []
theorem zipL_get : ∀ {xs ys : List D} {i : Nat} {d : D}, (zipL xs ys)[i]? = some d → ∃ x y, xs[i]? = some x ∧ ys[i]? = some y ∧ d = .tuple [x, y]
  | x :: xs, y :: ys, 0, d, h => by
    have h' : some (PyData.tuple [x, y]) = some d := h
    cases h'
    exact ⟨x, y, rfl, rfl, rfl⟩
  | x :: xs, y :: ys, i + 1, d, h => zipL_get (xs := xs) (ys := ys) (i := i) h
  | [], _, _, _, h => by simp [zipL] at h
  | _ :: _, [], _, _, h => by simp [zipL] at h
theorem zipL_len : ∀ xs ys : List D, (zipL xs ys).length = min xs.length ys.length
  | x :: xs, y :: ys => by
    show (zipL xs ys).length + 1 = min (xs.length + 1) (ys.length + 1)
    rw [zipL_len xs ys]; omega
  | [], ys => by simp [zipL]
  | _ :: _, [] => by simp [zipL]
def sZip (a b : SE) : SI := fun ρ c => (a ρ c).bind fun p => (b ρ p.2).bind fun q => (seqD p.1).bind fun xs => (seqD q.1).bind fun ys => some (zipL xs ys, q.2)
theorem imp_zip {t u : TE} {a b : SE} (h : ImpE K t a) (h2 : ImpE K u b) : ImpI K (iZipK K (tCons t (tCons u tNil))) (sZip a b) := fun ad B σ H ρ c xs c' Q R e q => by
  obtain ⟨⟨d, c1⟩, e1, e2⟩ := Option.bind_eq_some_iff.mp e
  obtain ⟨⟨d2, c2⟩, e3, e4⟩ := Option.bind_eq_some_iff.mp e2
  obtain ⟨ys, e5, e6⟩ := Option.bind_eq_some_iff.mp e4
  obtain ⟨zs, e7, e8⟩ := Option.bind_eq_some_iff.mp e6
  cases e8
  refine h ad B σ H ρ c d _ _ R e1 fun v B1 H1 x dv => ?_
  refine h2 ad B1 σ H1 ρ c1 d2 _ _ (R.fw x) e3 fun v2 B' H' y dv2 => ?_
  obtain ⟨t, a, vs, rfl, s1, s2⟩ := seqD_ok x.bh dv e5
  obtain ⟨u, b, ws, rfl, s3, s4⟩ := seqD_ok y.bh dv2 e7
  refine ⟨t, u, a, b, vs, ws, rfl, s2 _ (y.bb.trans y.bh), s4 _ y.bh, q _ B' H' (R.trans x y) fun B2 H2 m1 m2 => ?_⟩
  have sq := s2 H2 (y.bb.trans (m1.trans m2))
  have sq2 := s4 H2 (m1.trans m2)
  have l1 := dpAll_len s1
  have l2 := dpAll_len s3
  refine ⟨⟨vs, ws, sq, sq2, by rw [zipL_len, l1]; exact Nat.min_le_left _ _, by rw [zipL_len, l2]; exact Nat.min_le_right _ _, by rw [zipL_len, l1, l2]; omega⟩, fun i d hd => ?_⟩
  obtain ⟨y1, y2, k1, k2, rfl⟩ := zipL_get hd
  obtain ⟨w1, g1, g2⟩ := dpAll_get s1 k1
  obtain ⟨w2, g3, g4⟩ := dpAll_get s3 k2
  refine ⟨⟨vs, ws, w1, w2, sq, sq2, g1, g3⟩, fun z H3 hy => ?_⟩
  obtain ⟨T, x', y', rfl, nT, rfl, f, f2⟩ := hy
  have ex := (f vs sq).symm.trans g1
  have ex2 := (f2 ws sq2).symm.trans g3
  cases ex
  cases ex2
  obtain ⟨g, dd⟩ := Grow.newTup (K := K) m2 nT (.cons (dp_mono (y.bb.trans m1) _ _ g2) (.cons (dp_mono m1 _ _ g4) .nil))
  exact ⟨_, g, dd⟩
end
end DL
/-! DLh: dicts of ints, stores of several names, isinstance, slices with a step. -/
namespace DL
open PySem PySem.Spec L2
section
variable {K : PySem.W.Frag}
/-! ### dicts -/
def kvLook (kvs : List (Int × D)) (k : Int) : Option D := (kvs.find? fun p => decide (p.1 = k)).map (·.2)
def kvPut (kvs : List (Int × D)) (k : Int) (v : D) : List (Int × D) :=
  if (kvs.any fun p => decide (p.1 = k)) = true then kvs.map (fun p => if p.1 = k then (p.1, v) else p) else kvs ++ [(k, v)]
theorem inl_dec (a b : Int) : decide ((Sum.inl a : Key) = Sum.inl b) = decide (a = b) := by
  by_cases h : a = b
  · subst h; simp
  · rw [decide_eq_false h, decide_eq_false (fun e => h (Sum.inl.inj e))]
theorem kv_len {B : Hp} : ∀ {ks : List (Key × V)} {kvs : List (Int × D)}, KvOk K B ks kvs → ks.length = kvs.length
  | _, _, .nil => rfl
  | _, _, .cons _ t => by rw [List.length_cons, List.length_cons, kv_len t]
theorem kv_look {B : Hp} (k : Int) : ∀ {ks : List (Key × V)} {kvs : List (Int × D)}, KvOk K B ks kvs → (match kvLook kvs k with | some d => ∃ v, valV ks (Sum.inl k) = some v ∧ Dp K B v d | none => valV ks (Sum.inl k) = none)
  | _, _, .nil => rfl
  | p :: ks, q :: kvs, .cons r t => by
    obtain ⟨e1, e2⟩ := r
    obtain ⟨pk, pv⟩ := p
    obtain ⟨qk, qd⟩ := q
    simp only at e1 e2
    subst e1
    by_cases h : qk = k
    · subst h
      have a1 : kvLook ((qk, qd) :: kvs) qk = some qd := by unfold kvLook; simp
      rw [a1]
      exact ⟨pv, valV_pos rfl, e2⟩
    · have a1 : kvLook ((qk, qd) :: kvs) k = kvLook kvs k := by unfold kvLook; simp [h]
      have a2 : valV ((Sum.inl qk, pv) :: ks) (Sum.inl k : Key) = valV ks (Sum.inl k) := valV_neg fun e => h (Sum.inl.inj e)
      rw [a1, a2]
      exact kv_look k t
theorem kv_any {B : Hp} (k : Int) : ∀ {ks : List (Key × V)} {kvs : List (Int × D)}, KvOk K B ks kvs → (ks.any fun p => decide (p.1 = Sum.inl k)) = kvs.any fun p => decide (p.1 = k)
  | _, _, .nil => rfl
  | p :: ks, q :: kvs, .cons r t => by
    rw [List.any_cons, List.any_cons, kv_any k t, r.1, inl_dec]
theorem kv_repl {B : Hp} (k : Int) {v : V} {d : D} (h : Dp K B v d) : ∀ {ks : List (Key × V)} {kvs : List (Int × D)}, KvOk K B ks kvs → KvOk K B (ks.map fun p => if p.1 = Sum.inl k then (p.1, v) else p) (kvs.map fun p => if p.1 = k then (p.1, d) else p)
  | _, _, .nil => .nil
  | p :: ks, q :: kvs, .cons r t => by
    rw [List.map_cons, List.map_cons]
    refine .cons ?_ (kv_repl k h t)
    by_cases e : q.1 = k
    · rw [if_pos (show p.1 = Sum.inl k by rw [r.1, e]), if_pos e]
      exact ⟨r.1, h⟩
    · rw [if_neg (show ¬ p.1 = Sum.inl k from fun z => e (Sum.inl.inj (r.1.symm.trans z))), if_neg e]
      exact r
theorem kv_app {B : Hp} {p : Key × V} {q : Int × D} (r : p.1 = Sum.inl q.1 ∧ Dp K B p.2 q.2) : ∀ {ks : List (Key × V)} {kvs : List (Int × D)}, KvOk K B ks kvs → KvOk K B (ks ++ [p]) (kvs ++ [q])
  | _, _, .nil => .cons r .nil
  | _, _, .cons r' t => .cons r' (kv_app r t)
theorem kv_put {B : Hp} {k : Int} {v : V} {d : D} {ks : List (Key × V)} {kvs : List (Int × D)} (h : KvOk K B ks kvs) (hd : Dp K B v d) : KvOk K B (putK ks (Sum.inl k) v) (kvPut kvs k d) := by
  unfold putK kvPut
  rw [kv_any k h]
  split
  · exact kv_repl k hd h
  · exact kv_app ⟨rfl, hd⟩ h
theorem kv_get {B : Hp} : ∀ {ks : List (Key × V)} {kvs : List (Int × D)} {i : Nat} {q : Int × D}, KvOk K B ks kvs → kvs[i]? = some q → ∃ v, ks[i]? = some (Sum.inl q.1, v) ∧ Dp K B v q.2
  | _, _, _, _, .nil, e => by simp at e
  | p :: ks, q' :: kvs, 0, q, .cons r t, e => by
    simp at e
    subst e
    obtain ⟨pk, pv⟩ := p
    simp only at r
    rw [r.1]
    exact ⟨pv, rfl, r.2⟩
  | p :: ks, q' :: kvs, i + 1, q, .cons r t, e => by
    obtain ⟨v, h1, h2⟩ := kv_get (i := i) t (by simpa using e)
    exact ⟨v, by simpa using h1, h2⟩
/-- a dict at a slot -/
def dictAt (s : Option Sl) : Option (List (Int × D)) := match s with
  | some (.od kvs) => some kvs
  | some (.fd kvs) => some kvs
  | _ => none
theorem Rl.dict {ad : Option Addr} {B H : Hp} {σ : L2.St} {ρ : Rho} {c : Dr} (r : Rl K ad B σ H ρ c) {i : Nat} {kvs : List (Int × D)} (e : dictAt ρ[i]? = some kvs) : ∃ a ks, σ[i]? = some (some (.ref a)) ∧ Rd H a (.dK ks) ∧ ad ≠ some a ∧ KvOk K B ks kvs := by
  unfold dictAt at e
  split at e
  · rename_i h
    cases e
    obtain ⟨a, ks, e1, e2, e3, e4, e5⟩ := r.slot i _ h
    exact ⟨a, ks, e1, .inl e2, e4, e5⟩
  · rename_i h
    cases e
    obtain ⟨a, w, ks, e1, e2, e3, e4, e5⟩ := r.slot i _ h
    exact ⟨a, ks, e1, .inr ⟨w, e2⟩, e4, e5⟩
  · cases e
theorem Fw.rd {ad : Option Addr} {c' : Dr} {B H B' H' : Hp} {a : Addr} {u : HO} (x : Fw ad c' B H B' H') (h : Rd H a u) (n : ad ≠ some a) : Rd H' a u := by
  rcases h with h | ⟨o, h⟩
  · exact .inl (x.keep a _ n h)
  · exact .inr ⟨o, x.keep a _ n h⟩
/-- d.get(k, x) -/
def sDGet2 (i : Nat) (k x : SE) : SE := fun ρ c => (dictAt ρ[i]?).bind fun kvs => (k ρ c).bind fun p => match p.1 with
  | .int j => (x ρ p.2).bind fun q => some ((kvLook kvs j).getD q.1, q.2)
  | _ => none
theorem imp_dget2 {i : Nat} {t u : TE} {k x : SE} (hk : ImpE K t k) (hx : ImpE K u x) : ImpE K (tDGet2 (tVar i) t u) (sDGet2 i k x) := fun ad B σ H ρ c d c' Q R e q => by
  obtain ⟨kvs, e0, e1⟩ := Option.bind_eq_some_iff.mp e
  obtain ⟨⟨kd, c1⟩, e2, e3⟩ := Option.bind_eq_some_iff.mp e1
  cases kd with
  | int j =>
    obtain ⟨⟨xd, c2⟩, e4, e5⟩ := Option.bind_eq_some_iff.mp e3
    cases e5
    obtain ⟨a, ks, g1, g2, g3, g4⟩ := R.dict e0
    refine ⟨.ref a, g1, a, rfl, .inl ⟨ks, g2⟩, hk ad B σ H ρ c _ c1 _ R e2 fun v B1 H1 y dv => ?_⟩
    refine hx ad B1 σ H1 ρ c1 xd _ _ (R.fw y) e4 fun w B2 H2 z dw => ?_
    have f2 := R.trans y z
    refine ⟨valV ks (Sum.inl j), .inl ⟨ks, Sum.inl j, f2.rd g2 g3, dp_int dv, rfl⟩, ?_⟩
    have lk := kv_look j g4
    cases h : kvLook kvs j with
    | none =>
      rw [h] at lk q
      have lk' : valV ks (Sum.inl j) = none := lk
      rw [lk']
      exact q w B2 H2 f2 dw
    | some dd =>
      rw [h] at lk q
      obtain ⟨vv, l1, l2⟩ := (show ∃ v, valV ks (Sum.inl j) = some v ∧ Dp K B v dd from lk)
      rw [l1]
      exact q vv B2 H2 f2 (dp_mono f2.bb _ _ l2)
  | _ => cases e3
/-- d[k] -/
def sDIx (i : Nat) (k : SE) : SE := fun ρ c => (dictAt ρ[i]?).bind fun kvs => (k ρ c).bind fun p => match p.1 with
  | .int j => (kvLook kvs j).bind fun d => some (d, p.2)
  | _ => none
theorem imp_dix {i : Nat} {t : TE} {k : SE} (hk : ImpE K t k) : ImpE K (tDGet (tVar i) t) (sDIx i k) := fun ad B σ H ρ c d c' Q R e q => by
  obtain ⟨kvs, e0, e1⟩ := Option.bind_eq_some_iff.mp e
  obtain ⟨⟨kd, c1⟩, e2, e3⟩ := Option.bind_eq_some_iff.mp e1
  cases kd with
  | int j =>
    obtain ⟨dd, e4, e5⟩ := Option.bind_eq_some_iff.mp e3
    cases e5
    obtain ⟨a, ks, g1, g2, g3, g4⟩ := R.dict e0
    refine ⟨.ref a, g1, hk ad B σ H ρ c _ _ _ R e2 fun v B1 H1 y dv => ?_⟩
    have lk := kv_look j g4
    rw [e4] at lk
    obtain ⟨vv, l1, l2⟩ := (show ∃ v, valV ks (Sum.inl j) = some v ∧ Dp K B v d from lk)
    exact ⟨a, vv, rfl, .inl ⟨ks, Sum.inl j, y.rd g2 g3, dp_int dv, l1.symm⟩, q vv B1 H1 y (dp_mono y.bb _ _ l2)⟩
  | _ => cases e3
/-- len(d), min(d) are asked of a dict of one's own by its keys -/
def sDLen (i : Nat) : SE := fun ρ c => (dictAt ρ[i]?).bind fun kvs => some (.int kvs.length, c)
/-- d[k] = v -/
def sDPutS (i : Nat) (k v : SE) : SS := fun ρ c => match ρ[i]? with
  | some (.od kvs) => (v ρ c).bind fun p => (k ρ p.2).bind fun q => match q.1 with
    | .int j => if few kvs.length = true then some (.nx, ρ.set i (.od (kvPut kvs j p.1)), q.2) else none
    | _ => none
  | _ => none
theorem imp_dput {i : Nat} {t u : TE} {k v : SE} (hk : ImpE K t k) (hv : ImpE K u v) : ImpS K (sDPut (tVar i) t u) (sDPutS i k v) := fun ad B σ H ρ c r D R e q => by
  unfold sDPutS at e
  split at e
  · rename_i kvs e0
    obtain ⟨⟨vd, c1⟩, e1, e2⟩ := Option.bind_eq_some_iff.mp e
    obtain ⟨⟨kd, c2⟩, e3, e4⟩ := Option.bind_eq_some_iff.mp e2
    cases kd with
    | int j =>
      have e4' : (if few kvs.length = true then some (Fl.nx, ρ.set i (.od (kvPut kvs j vd)), c2) else none) = some r := e4
      split at e4'
      · rename_i hz
        cases e4'
        refine hv ad B σ H ρ c vd c1 _ R e1 fun w B1 H1 x dw => ?_
        have R1 := R.fw x
        obtain ⟨a, ks, g1, g2, g3, g4, g5⟩ := R1.slot i _ e0
        refine ⟨.ref a, g1, hk ad B1 σ H1 ρ c1 _ c2 _ R1 e3 fun w2 B2 H2 y dk => ?_⟩
        have R2 := R1.fw y
        have hH : H2 a = some (.dK ks) := y.keep a _ g4 g2
        obtain ⟨a', ks', k1, k2, k3, k4, k5⟩ := R2.slot i _ e0
        rw [g1] at k1; cases k1
        rw [hH] at k2; cases k2
        obtain ⟨R3, z⟩ := R2.chOwn (s' := .od (kvPut kvs j vd)) (o' := .dK (putK ks (Sum.inl j) w)) e0 rfl g1 ⟨a, _, rfl, upd_same, k3, k4, kv_put k5 (dp_mono y.bb _ _ dw)⟩
        refine ⟨a, _, rfl, .inl ⟨ks, Sum.inl j, hH, dp_int dk, by rw [kv_len k5]; exact few_lt hz, rfl⟩, ?_⟩
        exact q B2 σ _ R3 (FwS.trans R R2 (FwS.trans R R1 (FwS.ofFw R x) (FwS.ofFw R1 y)) z)
      · cases e4'
    | _ => cases e4
  · cases e
/-- d = {} -/
def sDNew (i : Nat) : SS := fun ρ c => some (.nx, ρ.set i (.od []), c)
theorem Rl.newOwn {ad : Option Addr} {B H : Hp} {σ : L2.St} {ρ : Rho} {c : Dr} (R : Rl K ad B σ H ρ c) {i : Nat} {a : Addr} {s : Sl} {o : HO} (n : H a = none) (hs : B a = none → ad ≠ some a → SlOk K ad B (upd H a o) (some (some (.ref a))) s) :
    Rl K ad B (σ.set i (some (.ref a))) (upd H a o) (ρ.set i s) c ∧ FwS ad B σ H ρ B (σ.set i (some (.ref a))) (upd H a o) (ρ.set i s) := by
  have nb : B a = none := R.sub.free n
  have na : ad ≠ some a := fun e => by rw [R.cell a e] at n; cases n
  have no : ¬ Owned ρ σ a := fun ho => by
    obtain ⟨_, _, o, q⟩ := R.ownB ho
    rw [n] at q; cases q
  have sm : Same H (upd H a o) := same_new n
  obtain ⟨R1, w⟩ := (R.up sm).putOwn (i := i) no (hs nb na)
  exact ⟨R1, ⟨Same.refl B, fun b u _ h _ => sm b u h, fun b u h m => (by rw [h] at m; cases m), fun b h => (w b h).elim .inl fun e => .inr (by rw [e]; exact n)⟩⟩
theorem imp_dnew {i : Nat} : ImpS K (tAsg tDNewK (gName i)) (sDNew i) := fun ad B σ H ρ c r D R e q => by
  cases e
  intro p np
  obtain ⟨R1, w⟩ := R.newOwn (i := i) (s := .od []) (o := .dK []) np fun nb na => ⟨p, [], rfl, upd_same, nb, na, .nil⟩
  exact q B _ _ R1 w
/-- d = {0: 1} -/
def sDNew1 (i : Nat) (k v : Int) : SS := fun ρ c => some (.nx, ρ.set i (.od [(k, .int v)]), c)
theorem imp_dnew1 {i : Nat} {k v : Int} : ImpS K (tAsg (tDisp [(tC (.int k), tC (.int v))]) (gName i)) (sDNew1 i k v) := fun ad B σ H ρ c r D R e q => by
  cases e
  intro p np
  refine ⟨upd_same, [(Sum.inl k, .int v)], rfl, by show 1 ≤ 15; decide, ?_⟩
  rw [upd_upd]
  obtain ⟨R1, w⟩ := R.newOwn (i := i) (s := .od [(k, .int v)]) (o := .dK [(Sum.inl k, .int v)]) np fun nb na => ⟨p, [(Sum.inl k, .int v)], rfl, upd_same, nb, na, .cons ⟨rfl, .int v⟩ .nil⟩
  exact q B _ _ R1 w
/-- y = x, of an object of one's own: it moves -/
def sMove (j i : Nat) : SS := fun ρ c => if i = j then none else match ρ[i]? with
  | some s => if owns s = true then some (.nx, (ρ.set i .un).set j s, c) else none
  | none => none
theorem imp_move {j i : Nat} : ImpS K (tAsg (tVar i) (gName j)) (sMove j i) := fun ad B σ H ρ c r D R e q => by
  unfold sMove at e
  split at e
  · cases e
  · rename_i hij
    split at e
    · rename_i s e0
      split at e
      · rename_i ho
        cases e
        have hs := R.slot i s e0
        have ha : ∃ a, σ[i]? = some (some (.ref a)) := by
          cases s with
          | ol xs => obtain ⟨a, _, e1, _⟩ := hs; exact ⟨a, e1⟩
          | od xs => obtain ⟨a, _, e1, _⟩ := hs; exact ⟨a, e1⟩
          | _ => cases ho
        obtain ⟨a, ea⟩ := ha
        rw [ea] at hs
        obtain ⟨R1, f1⟩ := R.forget i
        have no : ¬ Owned (ρ.set i .un) σ a := fun ⟨k, t, e1, e2, e3⟩ => by
          by_cases hk : k = i
          · subst hk
            rw [List.getElem?_set_self (List.getElem?_eq_some_iff.mp e0).1] at e1
            cases e1; cases e2
          · rw [List.getElem?_set_ne (Ne.symm hk)] at e1
            exact R.sep i k s t a (Ne.symm hk) e0 e1 ho e2 ea e3
        obtain ⟨R2, w⟩ := R1.putOwn (i := j) no hs
        refine ⟨.ref a, ea, q B _ H R2 ⟨Same.refl B, fun b o _ h _ => h, fun b o h m => (by rw [h] at m; cases m), fun b h => .inl ?_⟩⟩
        rcases w b h with z | z
        · exact (f1.own b z).elim id fun n => by
            obtain ⟨k, t, e1, e2, e3⟩ := z
            obtain ⟨_, _, o, q⟩ := R1.ownB ⟨k, t, e1, e2, e3⟩
            rw [n] at q; cases q
        · subst z; exact ⟨i, s, e0, ho, ea⟩
      · cases e
    · cases e
/-! a dict walked: it stands still meanwhile, and is not known behind -/
def noFd (ρ : Rho) : Bool := ρ.all fun s => match s with
  | .fd _ => false
  | _ => true
def sForD (f : Int × D → D) (i : Nat) (g : D → Rho → Option Rho) (body : SS) : SS := fun ρ c => match ρ[i]? with
  | some (.od kvs) => (forS g body (kvs.map f) (ρ.set i (.fd kvs)) c).bind fun r => if noFd (r.2.1.set i .un) = true then some (r.1, r.2.1.set i .un, r.2.2) else none
  | _ => none
theorem lock_core {i : Nat} {tg : TG} {tb : TS} {g : D → Rho → Option Rho} {body : SS} {wi : TI} {f : Int × D → D}
    (hw : ∀ (σ : L2.St) (H B : Hp) (a : Addr) (w : Obj) (ks : List (Key × V)) (kvs : List (Int × D)) (R : It → Hp → Prop), σ[i]? = some (some (.ref a)) → H a = some (.frz w (.dK ks)) → KvOk K B ks kvs →
      (∀ J : It, (∀ (B' H' : Hp), Same B B' → Same B' H' → H' a = some (.frz w (.dK ks)) → J.stop kvs.length H' ∧ ∀ (i : Nat) (d : D), (kvs.map f)[i]? = some d → J.go i H' ∧ ∀ x H3, J.yld i H' x H3 → ∃ B3, Grow B' H' B3 H3 ∧ Dp K B3 x d) → R J H) → wi σ H R)
    (hg : ImpG K tg g) (hb : ImpS K tb body) : ImpS K (tLock (tFor wi tg tb)) (sForD f i g body) := fun ad B σ H ρ c r D R e q => by
  unfold sForD at e
  split at e
  · rename_i kvs e0
    obtain ⟨⟨fl, ρ', c'⟩, e1, e2⟩ := Option.bind_eq_some_iff.mp e
    obtain ⟨a, ks, g1, g2, g3, g4, g5⟩ := R.slot i _ e0
    have hl : i < ρ.length := (List.getElem?_eq_some_iff.mp e0).1
    refine ⟨a, .dK ks, g2, trivial, fun w => ?_⟩
    -- the state while it is locked
    have oth : ∀ (j : Nat) (t : Sl) (b : Addr), j ≠ i → ρ[j]? = some t → owns t = true → σ[j]? = some (some (.ref b)) → b ≠ a := fun j t b hj e1 o1 z h => by
      subst h
      exact R.sep i j _ t b (Ne.symm hj) e0 e1 rfl o1 g1 z
    have p : ∀ {j : Nat} {t : Sl}, (ρ.set i (.fd kvs))[j]? = some t → (j = i ∧ t = .fd kvs) ∨ (j ≠ i ∧ ρ[j]? = some t) := fun {j t} h => by
      by_cases hj : j = i
      · subst hj
        rw [List.getElem?_set_self hl] at h
        cases h; exact .inl ⟨rfl, rfl⟩
      · rw [List.getElem?_set_ne (Ne.symm hj)] at h
        exact .inr ⟨hj, h⟩
    have hB : ∀ b, b ≠ a → upd H a (.frz w (.dK ks)) b = H b := fun b hb => upd_ne hb
    have R0 : Rl K ad B σ (upd H a (.frz w (.dK ks))) (ρ.set i (.fd kvs)) c := by
      refine ⟨fun b o h => ?_, fun b h => ?_, R.cfree, by rw [List.length_set]; exact R.len, fun j t h => ?_, fun j k s t b hjk h1 h2 o1 o2 z => ?_⟩
      · rw [hB b (fun z => by subst z; rw [g3] at h; cases h)]; exact R.sub b o h
      · rw [hB b (fun z => by subst z; exact g4 h)]; exact R.cell b h
      · rcases p h with ⟨z1, z2⟩ | ⟨z1, z2⟩
        · subst z1 z2
          exact ⟨a, w, ks, g1, upd_same, g3, g4, g5⟩
        · have qs := R.slot j t z2
          cases t with
          | un => trivial
          | im d => exact qs
          | ol xs =>
            obtain ⟨b, us, k1, k2, k3⟩ := qs
            exact ⟨b, us, k1, by rw [hB b (oth j _ b z1 z2 rfl k1)]; exact k2, k3⟩
          | od xs =>
            obtain ⟨b, us, k1, k2, k3⟩ := qs
            exact ⟨b, us, k1, by rw [hB b (oth j _ b z1 z2 rfl k1)]; exact k2, k3⟩
          | fd xs =>
            obtain ⟨b, w', us, k1, k2, k3⟩ := qs
            exact ⟨b, w', us, k1, by rw [hB b (fun z => by subst z; rw [g2] at k2; cases k2)]; exact k2, k3⟩
          | op v => exact qs
          | dr => exact qs
      · rcases p h1 with ⟨z1, z2⟩ | ⟨z1, z2⟩
        · subst z2; cases o1
        · rcases p h2 with ⟨y1, y2⟩ | ⟨y1, y2⟩
          · subst y2; cases o2
          · exact R.sep j k s t b hjk z2 y2 o1 o2 z
    have no0 : ¬ Owned (ρ.set i (.fd kvs)) σ a := fun ⟨j, t, h1, h2, h3⟩ => by
      rcases p h1 with ⟨z1, z2⟩ | ⟨z1, z2⟩
      · subst z2; cases h2
      · exact oth j t a z1 z2 h2 h3 rfl
    have own0 : ∀ b, Owned (ρ.set i (.fd kvs)) σ b → Owned ρ σ b := fun b ⟨j, t, h1, h2, h3⟩ => by
      rcases p h1 with ⟨z1, z2⟩ | ⟨z1, z2⟩
      · subst z2; cases h2
      · exact ⟨j, t, z2, h2, h3⟩
    have ownA : Owned ρ σ a := ⟨i, _, e0, rfl, g1⟩
    have Hn : ∀ b, upd H a (.frz w (.dK ks)) b = none → H b = none := fun b h => by
      by_cases hb : b = a
      · subst hb; rw [upd_same] at h; cases h
      · rw [hB b hb] at h; exact h
    -- back
    have back : ∀ {B' : Hp} {σ' : L2.St} {H' : Hp}, Rl K ad B' σ' H' ρ' c' → FwS ad B σ (upd H a (.frz w (.dK ks))) (ρ.set i (.fd kvs)) B' σ' H' ρ' → noFd (ρ'.set i .un) = true →
        H' a = some (.frz w (.dK ks)) ∧ Rl K ad B' σ' (upd H' a (.dK ks)) (ρ'.set i .un) c' ∧ FwS ad B σ H ρ B' σ' (upd H' a (.dK ks)) (ρ'.set i .un) := fun {B' σ' H'} R' y hno => by
      have hH' : H' a = some (.frz w (.dK ks)) := y.keep a _ g4 upd_same no0
      have nB' : B' a = none := by
        cases h : B' a with
        | none => rfl
        | some o =>
          rcases y.fresh a o h g3 with z | z
          · rw [upd_same] at z; cases z
          · exact absurd z no0
      obtain ⟨R2, f2⟩ := R'.forget i
      have hne : ∀ b, b ≠ a → upd H' a (.dK ks) b = H' b := fun b hb => upd_ne hb
      refine ⟨hH', ⟨fun b o h => ?_, fun b h => ?_, R2.cfree, R2.len, fun j t h => ?_, R2.sep⟩, ⟨y.bb, fun b o n h no => ?_, fun b o h1 h2 => ?_, fun b h => ?_⟩⟩
      · rw [hne b (fun z => by subst z; rw [nB'] at h; cases h)]; exact R2.sub b o h
      · rw [hne b (fun z => by subst z; exact g4 h)]; exact R2.cell b h
      · have qs := R2.slot j t h
        cases t with
        | un => trivial
        | im d => exact qs
        | ol xs =>
          obtain ⟨b, us, k1, k2, k3⟩ := qs
          exact ⟨b, us, k1, by rw [hne b (fun z => by subst z; rw [hH'] at k2; cases k2)]; exact k2, k3⟩
        | od xs =>
          obtain ⟨b, us, k1, k2, k3⟩ := qs
          exact ⟨b, us, k1, by rw [hne b (fun z => by subst z; rw [hH'] at k2; cases k2)]; exact k2, k3⟩
        | fd xs =>
          have := List.all_eq_true.mp hno _ (List.mem_of_getElem? h)
          cases this
        | op v => exact qs
        | dr => exact qs
      · have hb : b ≠ a := fun z => by subst z; exact no ownA
        rw [hne b hb]
        exact y.keep b o n (by rw [hB b hb]; exact h) fun z => no (own0 b z)
      · rcases y.fresh b o h1 h2 with z | z
        · exact .inl (Hn b z)
        · exact .inr (own0 b z)
      · rcases f2.own b h with z | z
        · rcases y.own b z with k | k
          · exact .inl (own0 b k)
          · exact .inr (Hn b k)
        · obtain ⟨_, _, o, qq⟩ := R2.ownB h
          rw [z] at qq; cases qq
    refine hw σ _ B a w ks kvs _ g1 upd_same g5 fun J hJ => ?_
    refine for_core (xs := kvs.map f) (r := (fl, ρ', c')) (D := ⟨fun σ' H' => H' a = some (.frz w (.dK ks)) ∧ D.nx σ' (upd H' a (.dK ks)), fun v H' => H' a = some (.frz w (.dK ks)) ∧ D.rt v (upd H' a (.dK ks)), fun σ' H' => H' a = some (.frz w (.dK ks)) ∧ D.bk σ' (upd H' a (.dK ks)), fun σ' H' => H' a = some (.frz w (.dK ks)) ∧ D.ct σ' (upd H' a (.dK ks))⟩) hg hb R0
      (fun B' σ' H' ρ2 y s => by
        have := hJ B' H' y.bb s (y.keep a _ g4 upd_same no0)
        rw [List.length_map]
        exact this) e1 ?_
    have e2' : (if noFd (ρ'.set i .un) = true then some (fl, ρ'.set i .un, c') else none) = some r := e2
    split at e2'
    · rename_i hno
      cases e2'
      cases fl with
      | nx =>
        exact fun B' σ' H' R' y => by
          obtain ⟨z1, z2, z3⟩ := back R' y hno
          exact ⟨z1, q B' σ' _ z2 z3⟩
      | bk =>
        exact fun B' σ' H' R' y => by
          obtain ⟨z1, z2, z3⟩ := back R' y hno
          exact ⟨z1, q B' σ' _ z2 z3⟩
      | ct =>
        exact fun B' σ' H' R' y => by
          obtain ⟨z1, z2, z3⟩ := back R' y hno
          exact ⟨z1, q B' σ' _ z2 z3⟩
      | rt d =>
        exact fun v B' σ' H' R' y dv => by
          obtain ⟨z1, z2, z3⟩ := back R' y hno
          exact ⟨z1, q v B' σ' _ z2 z3 dv⟩
    · cases e2'
  · cases e
def itemD (p : Int × D) : D := .tuple [.int p.1, p.2]
def keyD (p : Int × D) : D := .int p.1
theorem imp_forItems {i : Nat} {tg : TG} {tb : TS} {g : D → Rho → Option Rho} {body : SS} (hg : ImpG K tg g) (hb : ImpS K tb body) : ImpS K (tLock (tFor (iItems (tVar i)) tg tb)) (sForD itemD i g body) :=
  lock_core (fun σ H B a w ks kvs R e1 e2 kv q => ⟨.ref a, e1, a, w, ks, rfl, e2, q _ fun B' H' m1 m2 hH => ⟨⟨hH, Nat.le_of_eq (kv_len kv)⟩, fun i d hd => by
    rw [List.getElem?_map] at hd
    obtain ⟨p, h1, rfl⟩ := Option.map_eq_some_iff.mp hd
    obtain ⟨v, k1, k2⟩ := kv_get kv h1
    refine ⟨⟨hH, (List.getElem?_eq_some_iff.mp k1).1⟩, fun x H3 hy => ?_⟩
    obtain ⟨T, k, v', y1, rfl, nT, rfl⟩ := hy
    rw [k1] at y1
    cases y1
    obtain ⟨gr, dd⟩ := Grow.newTup (K := K) (vs := [.int p.1, v]) m2 nT (.cons (.int p.1) (.cons (dp_mono m1 _ _ k2) .nil))
    exact ⟨_, gr, dd⟩⟩⟩) hg hb
theorem imp_forKeys {i : Nat} {tg : TG} {tb : TS} {g : D → Rho → Option Rho} {body : SS} (hg : ImpG K tg g) (hb : ImpS K tb body) : ImpS K (tLock (tFor (iKeys (tVar i)) tg tb)) (sForD keyD i g body) :=
  lock_core (fun σ H B a w ks kvs R e1 e2 kv q => ⟨.ref a, e1, a, w, rfl, .inl ⟨ks, e2, q _ fun B' H' m1 m2 hH => ⟨⟨hH, Nat.le_of_eq (kv_len kv)⟩, fun i d hd => by
    rw [List.getElem?_map] at hd
    obtain ⟨p, h1, rfl⟩ := Option.map_eq_some_iff.mp hd
    obtain ⟨v, k1, k2⟩ := kv_get kv h1
    refine ⟨⟨hH, (List.getElem?_eq_some_iff.mp k1).1⟩, fun x H3 hy => ?_⟩
    obtain ⟨rfl, k, v', y1, rfl⟩ := hy
    rw [k1] at y1
    cases y1
    exact ⟨B', Grow.refl m2, .int _⟩⟩⟩⟩) hg hb

/-! ### several names at once -/
/-- a, b = e, [..] : the second a list to be changed -/
def sParL (i j : Nat) (a : SE) (b : SL) : SS := fun ρ c => if i = j then none else (a ρ c).bind fun p => (b ρ p.2).bind fun q => some (.nx, (ρ.set i (.im p.1)).set j (.ol q.1), q.2)
theorem imp_parL {i j : Nat} {t u : TE} {a : SE} {b : SL} (ha : ImpE K t a) (hb : ImpL K u b) : ImpS K (tPar i j (tCons t (tCons u tNil))) (sParL i j a b) := fun ad B σ H ρ c r D R e q => by
  unfold sParL at e
  split at e
  · cases e
  obtain ⟨⟨d, c1⟩, e1, e2⟩ := Option.bind_eq_some_iff.mp e
  obtain ⟨⟨ds, c2⟩, e3, e4⟩ := Option.bind_eq_some_iff.mp e2
  cases e4
  refine ha ad B σ H ρ c d c1 _ R e1 fun v B1 H1 x dv => ?_
  refine hb ad B1 σ H1 ρ c1 ds c2 _ (R.fw x) e3 fun p vs B2 H2' H2 y np eH du => ?_
  subst eH
  have f2 := R.trans x y
  have R2 := (R.fw f2).setIm (i := i) (dp_mono y.bb _ _ dv)
  obtain ⟨R3, w⟩ := R2.setOl (i := j) np du
  exact ⟨v, .ref p, rfl, q B2 _ _ R3 (FwS.trans R R2 (FwS.trans R (R.fw f2) (FwS.ofFw R f2) (FwS.setNo (R.fw f2) rfl)) w)⟩
/-- a, b = [..], e -/
def sParL1 (i j : Nat) (a : SL) (b : SE) : SS := fun ρ c => if i = j then none else (a ρ c).bind fun p => (b ρ p.2).bind fun q => some (.nx, (ρ.set i (.ol p.1)).set j (.im q.1), q.2)
theorem imp_parL1 {i j : Nat} {t u : TE} {a : SL} {b : SE} (ha : ImpL K t a) (hb : ImpE K u b) : ImpS K (tPar i j (tCons t (tCons u tNil))) (sParL1 i j a b) := fun ad B σ H ρ c r D R e q => by
  unfold sParL1 at e
  split at e
  · cases e
  obtain ⟨⟨ds, c1⟩, e1, e2⟩ := Option.bind_eq_some_iff.mp e
  obtain ⟨⟨d, c2⟩, e3, e4⟩ := Option.bind_eq_some_iff.mp e2
  cases e4
  refine ha ad B σ H ρ c ds c1 _ R e1 fun p vs B1 H1' H1 x np eH dv => ?_
  subst eH
  have R1 := R.fw x
  have sm : Same H1 (upd H1 p (.lst vs)) := same_new np
  have nad : ad ≠ some p := fun e => by rw [x.cell p e] at np; cases np
  refine hb ad B1 σ _ ρ c1 d c2 _ (R1.up sm) e3 fun v B2 H2 y du => ?_
  have hp : H2 p = some (.lst vs) := y.keep p _ nad upd_same
  have nb1 : B1 p = none := x.bh.free np
  have nb2 : B2 p = none := by
    cases h : B2 p with
    | none => rfl
    | some o =>
      have := y.fresh p o h nb1
      rw [upd_same] at this; cases this
  have R2 := (R1.up sm).fw y
  have no : ¬ Owned ρ σ p := fun ho => by
    obtain ⟨_, _, o, z⟩ := R1.ownB ho
    rw [np] at z; cases z
  obtain ⟨R3, w⟩ := R2.putOwn (i := i) (s := .ol ds) no ⟨p, vs, rfl, hp, nb2, nad, dpAll_mono y.bb _ _ dv⟩
  have R4 := R3.setIm (i := j) du
  have g := Grow.new (o := .lst vs) x.bh np
  refine ⟨.ref p, v, rfl, q B2 _ H2 R4 ⟨x.bb.trans y.bb, fun b o n h _ => y.keep b o n (sm b o (x.keep b o n h)), fun b o h n => ?_, fun b h => ?_⟩⟩
  · cases h1 : B1 b with
    | some u => exact .inl (x.fresh b u h1 n)
    | none =>
      have h2 := y.fresh b o h h1
      left
      cases h3 : H b with
      | none => rfl
      | some u =>
        have nb : ad ≠ some b := fun z => by
          have := (sm b _ (x.cell b z))
          rw [h2] at this; cases this
        have := sm b u (x.keep b u nb h3)
        rw [h2] at this; cases this
  · have h' := owned_set_of R3.len rfl h
    rcases w b h' with z | z
    · exact .inl z
    · subst z
      right
      cases h3 : H b with
      | none => rfl
      | some u =>
        have := x.keep b u nad h3
        rw [np] at this; cases this
/-- a, b, c = [..], e, f -/
def sPar3L (i j l : Nat) (a : SL) (b d : SE) : SS := fun ρ c => if i = j ∨ i = l ∨ j = l then none else (a ρ c).bind fun p => (b ρ p.2).bind fun q => (d ρ q.2).bind fun s => some (.nx, ((ρ.set i (.ol p.1)).set j (.im q.1)).set l (.im s.1), s.2)
theorem imp_par3L {i j l : Nat} {t u v : TE} {a : SL} {b d : SE} (ha : ImpL K t a) (hb : ImpE K u b) (hd : ImpE K v d) : ImpS K (tPar3 i j l (tCons t (tCons u (tCons v tNil)))) (sPar3L i j l a b d) := fun ad B σ H ρ c r D R e q => by
  unfold sPar3L at e
  split at e
  · cases e
  obtain ⟨⟨ds, c1⟩, e1, e2⟩ := Option.bind_eq_some_iff.mp e
  obtain ⟨⟨d1, c2⟩, e3, e4⟩ := Option.bind_eq_some_iff.mp e2
  obtain ⟨⟨d2, c3⟩, e5, e6⟩ := Option.bind_eq_some_iff.mp e4
  cases e6
  refine ha ad B σ H ρ c ds c1 _ R e1 fun p vs B1 H1' H1 x np eH dv => ?_
  subst eH
  have R1 := R.fw x
  have sm : Same H1 (upd H1 p (.lst vs)) := same_new np
  have nad : ad ≠ some p := fun e => by rw [x.cell p e] at np; cases np
  have R1u := R1.up sm
  refine hb ad B1 σ _ ρ c1 d1 c2 _ R1u e3 fun v1 B2 H2 y du => ?_
  refine hd ad B2 σ _ ρ c2 d2 c3 _ (R1u.fw y) e5 fun v2 B3 H3 z du2 => ?_
  have yz : Fw ad c3 B1 (upd H1 p (.lst vs)) B3 H3 := R1u.trans y z
  have hp : H3 p = some (.lst vs) := yz.keep p _ nad upd_same
  have nb1 : B1 p = none := x.bh.free np
  have nb2 : B3 p = none := by
    cases h : B3 p with
    | none => rfl
    | some o =>
      have := yz.fresh p o h nb1
      rw [upd_same] at this; cases this
  have R2 := R1u.fw yz
  have no : ¬ Owned ρ σ p := fun ho => by
    obtain ⟨_, _, o, z⟩ := R1.ownB ho
    rw [np] at z; cases z
  obtain ⟨R3, w⟩ := R2.putOwn (i := i) (s := .ol ds) no ⟨p, vs, rfl, hp, nb2, nad, dpAll_mono yz.bb _ _ dv⟩
  have R4 := R3.setIm (i := j) (dp_mono z.bb _ _ du)
  have R5 := R4.setIm (i := l) du2
  refine ⟨.ref p, v1, v2, rfl, q B3 _ H3 R5 ⟨x.bb.trans yz.bb, fun b o n h _ => yz.keep b o n (sm b o (x.keep b o n h)), fun b o h n => ?_, fun b h => ?_⟩⟩
  · cases h1 : B1 b with
    | some u => exact .inl (x.fresh b u h1 n)
    | none =>
      have h2 := yz.fresh b o h h1
      left
      cases h3 : H b with
      | none => rfl
      | some u =>
        have nb : ad ≠ some b := fun z => by
          have := (sm b _ (x.cell b z))
          rw [h2] at this; cases this
        have := sm b u (x.keep b u nb h3)
        rw [h2] at this; cases this
  · have h' := owned_set_of R3.len rfl (owned_set_of R4.len rfl h)
    rcases w b h' with z | z
    · exact .inl z
    · subst z
      right
      cases h3 : H b with
      | none => rfl
      | some u =>
        have := x.keep b u nad h3
        rw [np] at this; cases this

/-! ### isinstance -/
inductive Cl where
  | int | bool | str | tuple | list
def Cl.nm : Cl → String
  | .int => "int" | .bool => "bool" | .str => "str" | .tuple => "tuple" | .list => "list"
def tyN : D → String
  | .none => "NoneType" | .bool _ => "bool" | .int _ => "int" | .str _ => "str" | .list _ => "list" | .tuple _ => "tuple" | .dict _ => "dict"
def isB : Cl → D → Bool
  | .int, .int _ => true | .int, .bool _ => true | .bool, .bool _ => true | .str, .str _ => true | .tuple, .tuple _ => true | .list, .list _ => true
  | _, _ => false
theorem kitC (c : Cl) (d : D) (h : ∀ k, d ≠ .dict k) : kitB (tyN d) c.nm = some (isB c d) := by
  cases d with
  | dict k => exact absurd rfl (h k)
  | none => cases c <;> decide +kernel
  | bool b => cases c <;> first | (show kitB "bool" _ = some true; decide +kernel) | (show kitB "bool" _ = some false; decide +kernel)
  | int b => cases c <;> first | (show kitB "int" _ = some true; decide +kernel) | (show kitB "int" _ = some false; decide +kernel)
  | str b => cases c <;> first | (show kitB "str" _ = some true; decide +kernel) | (show kitB "str" _ = some false; decide +kernel)
  | list b => cases c <;> first | (show kitB "list" _ = some true; decide +kernel) | (show kitB "list" _ = some false; decide +kernel)
  | tuple b => cases c <;> first | (show kitB "tuple" _ = some true; decide +kernel) | (show kitB "tuple" _ = some false; decide +kernel)
theorem dp_ty {B H : Hp} {v : V} {d : D} (s : Same B H) (h : Dp K B v d) : TyX K H v (.type (tyN d)) := by
  cases h with
  | non => exact .base .non
  | bl b => exact .base (.bl b)
  | int i => exact .base (.int i)
  | str x => exact .base (.str x)
  | lst h1 h2 => exact .base (.lst (s _ _ h1))
  | tup h1 h2 => exact .base (.tup (s _ _ h1))
theorem dp_nodict {B : Hp} {v : V} {d : D} (h : Dp K B v d) : ∀ k, d ≠ .dict k := fun k e => by subst e; cases h
def sIsi (k : Cl) (a : SE) : SE := fun ρ c => (a ρ c).bind fun p => some (.bool (isB k p.1), p.2)
theorem imp_isi {k : Cl} {t : TE} {a : SE} (h : ImpE K t a) : ImpE K (tCB (rIsi K) (tCons t (tCons (tC (.ty k.nm)) tNil))) (sIsi k a) := fun ad B σ H ρ c d c' Q R e q => by
  obtain ⟨⟨x, c1⟩, e1, e2⟩ := Option.bind_eq_some_iff.mp e
  cases e2
  refine h ad B σ H ρ c x _ _ R e1 fun v B1 H1 y dv => ?_
  exact ⟨v, .ty k.nm, .type (tyN x), .type k.nm, isB k x, rfl, .ty _, dp_ty y.bh dv, kit_ty (kitC k x (dp_nodict dv)), q _ B1 H1 y (.bl _)⟩
/-- isinstance(x, (T, U)) -/
def sIsi2 (k l : Cl) (a : SE) : SE := fun ρ c => (a ρ c).bind fun p => some (.bool (isB k p.1 || isB l p.1), p.2)
theorem imp_isi2 {k l : Cl} {t : TE} {a : SE} (h : ImpE K t a) : ImpE K (tCB (rIsiT K) (tCons t (tCons (tTup (tCons (tC (.ty k.nm)) (tCons (tC (.ty l.nm)) tNil))) tNil))) (sIsi2 k l a) := fun ad B σ H ρ c d c' Q R e q => by
  obtain ⟨⟨x, c1⟩, e1, e2⟩ := Option.bind_eq_some_iff.mp e
  cases e2
  refine h ad B σ H ρ c x _ _ R e1 fun v B1 H1 y dv => ⟨by show 2 ≤ sizeLine; decide, fun p np => ?_⟩
  have sm : Same B1 (upd H1 p (.tup [.ty k.nm, .ty l.nm])) := y.bh.trans (same_new np)
  have g : Fw ad c1 B1 H1 B1 (upd H1 p (.tup [.ty k.nm, .ty l.nm])) := ⟨Same.refl _, sm, fun a o _ h => same_new np a o h, fun a e => same_new np a _ (y.cell a e), fun a o h n => by rw [h] at n; cases n⟩
  refine ⟨v, p, [.ty k.nm, .ty l.nm], .type (tyN x), [.type k.nm, .type l.nm], (isB k x || isB l x), rfl, upd_same, .cons (.ty _) (.cons (.ty _) .nil), dp_ty sm dv, ?_, q _ B1 _ (R.trans y g) (.bl _)⟩
  refine kitAny_cons (kit_ty (kitC k x (dp_nodict dv))) (fun h1 => ?_) (fun h1 => by rw [h1]; rfl)
  rw [h1, Bool.false_or]
  refine kitAny_cons (kit_ty (kitC l x (dp_nodict dv))) (fun h2 => ?_) (fun h2 => h2)
  rw [h2]
  exact kitAny_nil

/-! ### slices with a step -/
def pickL {α : Type} (xs : List α) (lo hi st : Option Int) : List α := (sliceRange (sliceBounds lo hi st xs.length).1 (sliceBounds lo hi st xs.length).2.1 (sliceBounds lo hi st xs.length).2.2).filterMap fun j => xs[j]?
theorem vals_pick {xs : List V} {us : List Value} (r : Vals xs us) (lo hi st : Option Int) : Vals (pickL xs lo hi st) (pickL us lo hi st) := by
  unfold pickL
  rw [r.length]
  generalize sliceRange (sliceBounds lo hi st us.length).1 (sliceBounds lo hi st us.length).2.1 (sliceBounds lo hi st us.length).2.2 = js
  induction js with
  | nil => exact .nil
  | cons j js ih =>
    rw [List.filterMap_cons, List.filterMap_cons]
    cases h : xs[j]? with
    | none => rw [Vals.none_of r h]; exact ih
    | some x =>
      obtain ⟨u, e1, e2⟩ := r.get h
      rw [e1]
      exact .cons e2 ih
theorem dpAll_pick {B : Hp} {ds : List D} {vs : List V} (lo hi st : Option Int) (h : DpAll K B vs ds) : DpAll K B (pickL vs lo hi st) (pickL ds lo hi st) := by
  unfold pickL
  rw [dpAll_len h]
  generalize sliceRange (sliceBounds lo hi st ds.length).1 (sliceBounds lo hi st ds.length).2.1 (sliceBounds lo hi st ds.length).2.2 = js
  induction js with
  | nil => exact .nil
  | cons j js ih =>
    rw [List.filterMap_cons, List.filterMap_cons]
    cases e : ds[j]? with
    | none =>
      have : vs[j]? = none := by
        rw [List.getElem?_eq_none_iff] at e ⊢
        rw [dpAll_len h]; exact e
      rw [this]; exact ih
    | some x =>
      obtain ⟨v, e1, e2⟩ := dpAll_get h e
      rw [e1]
      exact .cons e2 ih
def tSl3 (K : PySem.W.Frag) (te : TE) (tl th ts : TO) : TE := fun σ H Q => te σ H fun x H1 => tl σ H1 fun l H2 => th σ H2 fun u H3 => ts σ H3 fun o H4 => ∃ a xs, x = .ref a ∧ SqL K H4 a xs ∧ o ≠ some 0 ∧ (pickL xs l u o).length ≤ sizeLine ∧ ∀ p, H4 p = none → Q (.ref p) (upd H4 p (.lst (pickL xs l u o)))
theorem pe_slice3 {X : Cx} {e : Expr} {lo hi : Option Expr} {st : Expr} {te : TE} {tl th ts : TO} {pos p2 : Pos} (he : PE X e te) (hl : PO X lo tl) (hu : PO X hi th) (hs : PO X (some st) ts) : PE X (.Subscript e (.Slice lo hi (some st) p2) pos) (tSl3 X.K te tl th ts) := by
  refine ⟨fun pins s σ H Q I h => ?_⟩
  refine PyProof.Rows.Subscript_ (thn (he.run pins s σ H _ I h) fun v s1 ⟨x, H1, I1, r1, q1⟩ => ?_)
  refine wpAny_Slice (thn (hl.run pins s1 σ H1 _ I1 q1) fun vl s2 ⟨l, H2, I2, pl, q2⟩ => thn (hu.run pins s2 σ H2 _ I2 q2) fun vu s3 ⟨u, H3, I3, pu, q3⟩ => thn (hs.run pins s3 σ H3 _ I3 q3) fun vs s4 ⟨o, H4, I4, ps, q4⟩ => ?_)
  obtain ⟨a, xs, rfl, hx, h0, hz, q⟩ := q4
  cases r1
  have I5 : L2.Inv X pins σ H4 { s4 with heap := s4.heap.push { cls := .type "slice", data := .fields #[vl, vu, vs] } } := I4.kept (t' := s4.toks) fun b ob q => Heap.get?_push_of_some _ q
  obtain ⟨its, r, ht, hz2⟩ := I5.list hx
  have hlen := r.length
  show wpAny (model X.prog X.w) X.A (PyProof.Rows.subscriptTail e (.Slice lo hi (some st) p2) (.ref a) (.ref s4.heap.objs.size)) (EP X pins σ Q) X.xe { s4 with heap := s4.heap.push { cls := .type "slice", data := .fields #[vl, vu, vs] } }
  refine PyProof.Rows.tail_any (ops := [.ref a, .ref s4.heap.objs.size]) ht.isList.typeIs (PySem.slot_list_getitem.lookup) ?_ (by with_unfolding_all rfl)
  refine wpAny_getItem_list_slice ht.isList (Heap.IsSliceOf.new _ vl vu vs) pl pu ps h0 ?_ (by rw [List.size_toArray]; omega)
  have ep : slicePick its.toArray l u o = (pickL its l u o).toArray := by
    unfold slicePick pickL
    simp
  rw [ep]
  refine ⟨.ref _, _, I5.laid (t' := s4.toks) (o := .lst (pickL xs l u o)) (fun b ob q => Heap.get?_push_of_some _ q) (Nat.le_refl _) ?_, rfl, q _ (I5.hok.fresh (Nat.le_refl _))⟩
  exact ⟨hz, _, 0, vals_pick r l u o, Heap.get?_push_size _ rfl⟩
def sSl3 (a : SE) (l h s : SO) : SE := fun ρ c => (a ρ c).bind fun p => (l ρ p.2).bind fun q => (h ρ q.2).bind fun r => (s ρ r.2).bind fun o => match p.1 with
  | .list xs => if o.1 = some 0 then none else if few (pickL xs q.1 r.1 o.1).length = true then some (.list (pickL xs q.1 r.1 o.1), o.2) else none
  | _ => none
theorem imp_sl3 {te : TE} {tl th ts : TO} {a : SE} {l u o : SO} (ha : ImpE K te a) (hl : ImpO K tl l) (hu : ImpO K th u) (ho : ImpO K ts o) : ImpE K (tSl3 K te tl th ts) (sSl3 a l u o) := fun ad B σ H ρ c d c' Q R h q => by
  unfold sSl3 at h
  obtain ⟨⟨x, c1⟩, h1, h⟩ := Option.bind_eq_some_iff.mp h
  obtain ⟨⟨y, c2⟩, h2, h⟩ := Option.bind_eq_some_iff.mp h
  obtain ⟨⟨y3, c3⟩, h3, h⟩ := Option.bind_eq_some_iff.mp h
  obtain ⟨⟨y4, c4⟩, h4, h⟩ := Option.bind_eq_some_iff.mp h
  cases x with
  | list xs =>
    have h' : (if y4 = some 0 then none else if few (pickL xs y y3 y4).length = true then some (PyData.list (pickL xs y y3 y4), c4) else none) = some (d, c') := h
    split at h'
    · cases h'
    · rename_i h0
      split at h'
      · rename_i hz
        cases h'
        refine ha ad B σ H ρ c _ c1 _ R h1 fun v B1 H1 f1 d1 => ?_
        refine hl ad B1 σ H1 ρ c1 y c2 _ (R.fw f1) h2 fun B2 H2 f2 => ?_
        have f12 := R.trans f1 f2
        refine hu ad B2 σ H2 ρ c2 y3 c3 _ (R.fw f12) h3 fun B3 H3 f3 => ?_
        have f13 := R.trans f12 f3
        refine ho ad B3 σ H3 ρ c3 y4 _ _ (R.fw f13) h4 fun B4 H4 f4 => ?_
        have f14 := R.trans f13 f4
        obtain ⟨p, vs, rfl, g1, g2⟩ := dp_list (dp_mono (f2.bb.trans (f3.bb.trans f4.bb)) _ _ d1)
        have g2' := dpAll_pick y y3 y4 g2
        refine ⟨p, vs, rfl, SqL.of (f4.bh _ _ g1), h0, by rw [dpAll_len g2']; exact few_line hz, fun l nl => ?_⟩
        obtain ⟨g, dd⟩ := Grow.newLst f4.bh nl g2'
        exact q _ _ _ (R.trans f14 (g.fw f4.cell)) dd
      · cases h'
  | _ => cases h
end
end DL
/-! DLj: several names stored at once, lists of one's own among the values; a block's end. -/
namespace DL
open PySem PySem.Spec L2
theorem room65 {A : Around} {k : Nat} (r : Room k A) : A.units + 65 < cLine := by
  have := r.un
  omega
section
variable {K : PySem.W.Frag}
/-- a value: plain data, or a new list -/
inductive AV where
  | pl (d : D)
  | fr (ds : List D)
inductive AvOk (K : PySem.W.Frag) (ad : Option Addr) (B H0 H : Hp) : List V → List AV → List Addr → Prop
  | nil {fs : List Addr} : AvOk K ad B H0 H [] [] fs
  | pl {v : V} {vs : List V} {d : D} {as : List AV} {fs : List Addr} : Dp K B v d → AvOk K ad B H0 H vs as fs → AvOk K ad B H0 H (v :: vs) (.pl d :: as) fs
  | fr {p : Addr} {us vs : List V} {ds : List D} {as : List AV} {fs : List Addr} : H p = some (.lst us) → B p = none → H0 p = none → ad ≠ some p → DpAll K B us ds → p ∉ fs → AvOk K ad B H0 H vs as (p :: fs) → AvOk K ad B H0 H (.ref p :: vs) (.fr ds :: as) fs
abbrev SV := Rho → Dr → Option (List AV × Dr)
/-- the way of arguments with new lists among them -/
structure FwV (ad : Option Addr) (c' : Dr) (B H B' H' : Hp) : Prop where
  bb : Same B B'
  bh : Same B' H'
  keep : ∀ a o, ad ≠ some a → H a = some o → H' a = some o
  cell : ∀ a, ad = some a → H' a = some (.lst [.int c'.1, .int c'.2])
  fresh : ∀ a o, B' a = some o → B a = none → H a = none
theorem FwV.fw {ad : Option Addr} {c' : Dr} {B H B' H' : Hp} (x : FwV ad c' B H B' H') : Fw ad c' B H B' H' := ⟨x.bb, x.bh, x.keep, x.cell, x.fresh⟩
def ImpV (K : PySem.W.Frag) (t : TA) (f : SV) : Prop := ∀ (ad : Option Addr) (B : Hp) (σ : L2.St) (H : Hp) (ρ : Rho) (c : Dr) (as : List AV) (c' : Dr) (Q : List V → Hp → Prop), Rl K ad B σ H ρ c → f ρ c = some (as, c') →
  (∀ vs B' H', Fw ad c' B H B' H' → (∀ fs, (∀ p ∈ fs, ∃ o, H p = some o) → AvOk K ad B' H H' vs as fs) → Q vs H') → t σ H Q
def sAvNil : SV := fun _ c => some ([], c)
def sAvP (a : SE) (b : SV) : SV := fun ρ c => (a ρ c).bind fun p => (b ρ p.2).bind fun q => some (.pl p.1 :: q.1, q.2)
def sAvF (a : SL) (b : SV) : SV := fun ρ c => (a ρ c).bind fun p => (b ρ p.2).bind fun q => some (.fr p.1 :: q.1, q.2)
theorem AvOk.weak {ad : Option Addr} {B H0 H0' H : Hp} {vs : List V} {as : List AV} {fs : List Addr} (h : AvOk K ad B H0 H vs as fs) (m : ∀ p, ad ≠ some p → H0 p = none → H0' p = none) : AvOk K ad B H0' H vs as fs := by
  induction h with
  | nil => exact .nil
  | pl h1 _ ih => exact .pl h1 ih
  | fr h1 h2 h3 h4 h5 h6 _ ih => exact .fr h1 h2 (m _ h4 h3) h4 h5 h6 ih
theorem imp_avNil : ImpV K tNil sAvNil := fun ad B σ H ρ c as c' Q r h q => by
  cases h
  exact q [] B H r.fwRefl fun fs _ => .nil
theorem imp_avP {t : TE} {u : TA} {a : SE} {b : SV} (ha : ImpE K t a) (hb : ImpV K u b) : ImpV K (tCons t u) (sAvP a b) := fun ad B σ H ρ c as c' Q R h q => by
  obtain ⟨⟨d, c1⟩, e1, e2⟩ := Option.bind_eq_some_iff.mp h
  obtain ⟨⟨bs, c2⟩, e3, e4⟩ := Option.bind_eq_some_iff.mp e2
  cases e4
  refine ha ad B σ H ρ c d c1 _ R e1 fun v B1 H1 x dv => ?_
  refine hb ad B1 σ H1 ρ c1 bs _ _ (R.fw x) e3 fun vs B2 H2 y av => ?_
  refine q _ B2 H2 (R.trans x y) fun fs hfs => .pl (dp_mono y.bb _ _ dv) ?_
  have nad : ∀ p ∈ fs, ∃ o, H1 p = some o := fun p hp => by
    obtain ⟨o, ho⟩ := hfs p hp
    by_cases e : ad = some p
    · exact ⟨_, x.cell p e⟩
    · exact ⟨o, x.keep p o e ho⟩
  exact (av fs nad).weak fun p n h => by
    cases e : H p with
    | none => rfl
    | some o => rw [x.keep p o n e] at h; cases h
theorem imp_avF {t : TE} {u : TA} {a : SL} {b : SV} (ha : ImpL K t a) (hb : ImpV K u b) : ImpV K (tCons t u) (sAvF a b) := fun ad B σ H ρ c as c' Q R h q => by
  obtain ⟨⟨ds, c1⟩, e1, e2⟩ := Option.bind_eq_some_iff.mp h
  obtain ⟨⟨bs, c2⟩, e3, e4⟩ := Option.bind_eq_some_iff.mp e2
  cases e4
  refine ha ad B σ H ρ c ds c1 _ R e1 fun p us B1 H1' H1 x np eH dv => ?_
  subst eH
  have R1 := R.fw x
  have sm : Same H1 (upd H1 p (.lst us)) := same_new np
  have nad : ad ≠ some p := fun e => by rw [x.cell p e] at np; cases np
  have nb1 : B1 p = none := x.bh.free np
  refine hb ad B1 σ _ ρ c1 bs _ _ (R1.up sm) e3 fun vs B2 H2 y av => ?_
  have hp : H2 p = some (.lst us) := y.keep p _ nad upd_same
  have nb2 : B2 p = none := by
    cases h : B2 p with
    | none => rfl
    | some o =>
      have := y.fresh p o h nb1
      rw [upd_same] at this; cases this
  have h0 : H p = none := by
    cases e : H p with
    | none => rfl
    | some o => rw [x.keep p o nad e] at np; cases np
  have f : Fw ad c2 B H B2 H2 := by
    refine ⟨x.bb.trans y.bb, y.bh, fun b o n h => y.keep b o n (sm b o (x.keep b o n h)), y.cell, fun b o h n => ?_⟩
    cases h1 : B1 b with
    | some u => exact x.fresh b u h1 n
    | none =>
      have h2 := y.fresh b o h h1
      cases h3 : H b with
      | none => rfl
      | some u =>
        have nb : ad ≠ some b := fun z => by
          have := (sm b _ (x.cell b z))
          rw [h2] at this; cases this
        have := sm b u (x.keep b u nb h3)
        rw [h2] at this; cases this
  refine q _ B2 H2 f fun fs hfs => .fr hp nb2 h0 nad (dpAll_mono y.bb _ _ dv) (fun hm => by obtain ⟨o, ho⟩ := hfs p hm; rw [h0] at ho; cases ho) ?_
  refine (av (p :: fs) fun b hb => ?_).weak fun b n h => ?_
  · rcases List.mem_cons.mp hb with e | hb
    · rw [e]; exact ⟨_, upd_same⟩
    · obtain ⟨o, ho⟩ := hfs b hb
      by_cases e : ad = some b
      · exact ⟨_, sm b _ (x.cell b e)⟩
      · exact ⟨o, sm b o (x.keep b o e ho)⟩
  · cases e : H b with
    | none => rfl
    | some o => rw [sm b o (x.keep b o n e)] at h; cases h
def slOf : AV → Sl
  | .pl d => .im d
  | .fr ds => .ol ds
def setMany : List Nat → List V → L2.St → L2.St
  | i :: is, v :: vs, σ => setMany is vs (σ.set i (some v))
  | _, _, σ => σ
def setAv : List Nat → List AV → Rho → Rho
  | i :: is, a :: as, ρ => setAv is as (ρ.set i (slOf a))
  | _, _, ρ => ρ
theorem put_many {ad : Option Addr} {B H0 H : Hp} : ∀ {is : List Nat} {vs : List V} {as : List AV} {fs : List Addr} {σ : L2.St} {ρ : Rho} {c : Dr}, Rl K ad B σ H ρ c → AvOk K ad B H0 H vs as fs → (∀ b, Owned ρ σ b → (∃ o, H0 b = some o) ∨ b ∈ fs) → is.length = as.length →
    Rl K ad B (setMany is vs σ) H (setAv is as ρ) c ∧ ∀ b, Owned (setAv is as ρ) (setMany is vs σ) b → Owned ρ σ b ∨ H0 b = none
  | [], [], [], _, _, _, _, R, _, _, _ => ⟨R, fun b h => .inl h⟩
  | i :: is, v :: vs, .pl d :: as, fs, σ, ρ, c, R, h, ho, hl => by
    cases h with
    | pl h1 h2 =>
      have R1 := R.setIm (i := i) h1
      obtain ⟨R2, w⟩ := put_many (is := is) R1 h2 (fun b hb => ho b (owned_set_of R.len rfl hb)) (by simpa using hl)
      exact ⟨R2, fun b hb => (w b hb).elim (fun z => .inl (owned_set_of R.len rfl z)) .inr⟩
  | i :: is, v :: vs, .fr ds :: as, fs, σ, ρ, c, R, h, ho, hl => by
    cases h with
    | @fr p us _ _ _ _ h1 h2 h3 h4 h5 h6 h7 =>
      have no : ¬ Owned ρ σ p := fun hb => by
        rcases ho p hb with ⟨o, z⟩ | z
        · rw [h3] at z; cases z
        · exact h6 z
      obtain ⟨R1, w1⟩ := R.putOwn (i := i) (s := .ol ds) no ⟨p, us, rfl, h1, h2, h4, h5⟩
      obtain ⟨R2, w⟩ := put_many (is := is) R1 h7 (fun b hb => (w1 b hb).elim (fun z => (ho b z).elim .inl fun y => .inr (List.mem_cons_of_mem _ y)) fun e => .inr (by rw [e]; exact List.mem_cons_self)) (by simpa using hl)
      exact ⟨R2, fun b hb => (w b hb).elim (fun z => (w1 b z).elim .inl fun e => .inr (by rw [e]; exact h3)) .inr⟩
  | [], _ :: _, _ :: _, _, _, _, _, _, _, _, hl => by simp at hl
  | _ :: _, [], [], _, _, _, _, _, _, _, hl => by simp at hl
  | _ :: _, _, [], _, _, _, _, _, _, _, hl => by simp at hl
  | [], [], _ :: _, _, _, _, _, _, h, _, _ => by cases h
  | [], _ :: _, [], _, _, _, _, _, h, _, _ => by cases h
  | _ :: _, [], _ :: _, _, _, _, _, _, h, _, _ => by cases h
theorem AvOk.up {ad : Option Addr} {B H0 H H2 : Hp} {vs : List V} {as : List AV} {fs : List Addr} (h : AvOk K ad B H0 H vs as fs) (s2 : Same H H2) : AvOk K ad B H0 H2 vs as fs := by
  induction h with
  | nil => exact .nil
  | pl h1 _ ih => exact .pl h1 ih
  | fr h1 h2 h3 h4 h5 h6 _ ih => exact .fr (s2 _ _ h1) h2 h3 h4 h5 h6 ih
def sMany (is : List Nat) (f : SV) : SS := fun ρ c => (f ρ c).bind fun p => if is.length = p.1.length then some (.nx, setAv is p.1 ρ, p.2) else none
theorem avOk_len {ad : Option Addr} {B H0 H : Hp} {vs : List V} {as : List AV} {fs : List Addr} (h : AvOk K ad B H0 H vs as fs) : vs.length = as.length := by
  induction h with
  | nil => rfl
  | pl _ _ ih => rw [List.length_cons, List.length_cons, ih]
  | fr _ _ _ _ _ _ _ ih => rw [List.length_cons, List.length_cons, ih]
theorem many_core {t : TA} {f : SV} {is : List Nat} (h : ImpV K t f) {ad : Option Addr} {B : Hp} {σ : L2.St} {H : Hp} {ρ : Rho} {c : Dr} {r : Fl × Rho × Dr} {D : Ends} {Q : List V → Hp → Prop} (R : Rl K ad B σ H ρ c) (e : sMany is f ρ c = some r) (q : Post K D ad B σ H ρ r)
    (hQ : ∀ vs H', vs.length = is.length → (∀ H2, Same H' H2 → D.nx (setMany is vs σ) H2) → Q vs H') : t σ H Q := by
  obtain ⟨⟨as, c1⟩, e1, e2⟩ := Option.bind_eq_some_iff.mp e
  have e2' : (if is.length = as.length then some (Fl.nx, setAv is as ρ, c1) else none) = some r := e2
  split at e2'
  · rename_i hl
    cases e2'
    refine h ad B σ H ρ c as c1 _ R e1 fun vs B' H' x av => hQ vs H' (by rw [avOk_len (av [] (fun _ h => by cases h)), hl]) fun H2 s2 => ?_
    have R1 := (R.fw x).up s2
    have av1 : AvOk K ad B' H H2 vs as [] := (av [] (fun _ h => by cases h)).up s2
    obtain ⟨R2, w⟩ := put_many R1 av1 (fun b hb => by
      obtain ⟨_, _, o, z⟩ := R.ownB hb
      exact .inl ⟨o, z⟩) hl
    exact q B' _ H2 R2 ⟨x.bb, fun b o n h _ => s2 b o (x.keep b o n h), fun b o h n => .inl (x.fresh b o h n), fun b hb => w b hb⟩
  · cases e2'
theorem imp_many2 {i j : Nat} {t : TA} {f : SV} (h : ImpV K t f) : ImpS K (tPar i j t) (sMany [i, j] f) := fun ad B σ H ρ c r D R e q =>
  many_core h R e q fun vs H' hl hn => by
    cases vs with
    | nil => simp at hl
    | cons v vs =>
      cases vs with
      | nil => simp at hl
      | cons w vs =>
        cases vs with
        | nil => exact ⟨v, w, rfl, hn H' (Same.refl _)⟩
        | cons _ _ => simp at hl
theorem imp_many3 {i j l : Nat} {t : TA} {f : SV} (h : ImpV K t f) : ImpS K (tPar3 i j l t) (sMany [i, j, l] f) := fun ad B σ H ρ c r D R e q =>
  many_core h R e q fun vs H' hl hn => by
    cases vs with
    | nil => simp at hl
    | cons v vs =>
      cases vs with
      | nil => simp at hl
      | cons w vs =>
        cases vs with
        | nil => simp at hl
        | cons u vs =>
          cases vs with
          | nil => exact ⟨v, w, u, rfl, hn H' (Same.refl _)⟩
          | cons _ _ => simp at hl
def tGs : List Nat → TGs
  | [] => gNil
  | i :: is => gCons (gName i) (tGs is)
theorem tGs_ok : ∀ {is : List Nat} {vs : List V} {σ : L2.St} {H : Hp} {Q : L2.St → Hp → Prop}, vs.length = is.length → Q (setMany is vs σ) H → tGs is vs σ H Q
  | [], [], _, _, _, _, q => ⟨rfl, q⟩
  | i :: is, v :: vs, σ, H, Q, hl, q => ⟨v, vs, rfl, tGs_ok (is := is) (by simpa using hl) q⟩
  | [], _ :: _, _, _, _, hl, _ => by simp at hl
  | _ :: _, [], _, _, _, hl, _ => by simp at hl
theorem imp_manyT {is : List Nat} {t : TA} {f : SV} (h : ImpV K t f) (hn : few is.length = true) : ImpS K (tAsg (tTup t) (gTup K is.length (tGs is))) (sMany is f) := fun ad B σ H ρ c r D R e q =>
  many_core h R e q fun vs H' hl hn' => ⟨by rw [hl]; exact few_line hn, fun p np => ⟨p, vs, rfl, SqT.of upd_same, hl, tGs_ok hl (hn' _ (same_new np))⟩⟩
/-- behind a block some slots are not known any more -/
def sThen (is : List Nat) (f : SS) : SS := fun ρ c => (f ρ c).bind fun r => match r with
  | (.rt d, ρ', c') => some (.rt d, ρ', c')
  | (fl, ρ', c') => some (fl, unset is ρ', c')
theorem imp_then {t : TS} {f : SS} (is : List Nat) (h : ImpS K t f) : ImpS K t (sThen is f) := fun ad B σ H ρ c r D R e q => by
  obtain ⟨⟨fl, ρ', c'⟩, e1, e2⟩ := Option.bind_eq_some_iff.mp e
  refine h ad B σ H ρ c _ D R e1 ?_
  cases fl with
  | nx =>
    cases e2
    exact fun B' σ' H' R' y => by
      obtain ⟨R2, z⟩ := R'.forgets is
      exact q B' σ' H' R2 (FwS.trans R R' y z)
  | bk =>
    cases e2
    exact fun B' σ' H' R' y => by
      obtain ⟨R2, z⟩ := R'.forgets is
      exact q B' σ' H' R2 (FwS.trans R R' y z)
  | ct =>
    cases e2
    exact fun B' σ' H' R' y => by
      obtain ⟨R2, z⟩ := R'.forgets is
      exact q B' σ' H' R2 (FwS.trans R R' y z)
  | rt d => cases e2; exact q
end
end DL
/-! DLk: the draws' cell; what a law's own def promises. -/
namespace DL
open PySem PySem.Spec L2
section
variable {K : PySem.W.Frag}
/-- draws[k] -/
def sDrIx (i : Nat) (k : SE) : SE := fun ρ c => match ρ[i]? with
  | some .dr => (k ρ c).bind fun q => match q.1 with
    | .int j => if j = 0 then some (.int q.2.1, q.2) else if j = 1 then some (.int q.2.2, q.2) else none
    | _ => none
  | _ => none
theorem imp_drIx {i : Nat} {u : TE} {k : SE} (hk : ImpE K u k) : ImpE K (tOp (rIx K) (tVar i) u) (sDrIx i k) := fun ad B σ H ρ c d c' Q R e q => by
  unfold sDrIx at e
  split at e
  · rename_i e0
    obtain ⟨⟨kd, c1⟩, e1, e2⟩ := Option.bind_eq_some_iff.mp e
    cases kd with
    | int j =>
      obtain ⟨a, rfl, g1⟩ := R.slot i _ e0
      have e2' : (if j = 0 then some (PyData.int c1.1, c1) else if j = 1 then some (PyData.int c1.2, c1) else none) = some (d, c') := e2
      refine ⟨.ref a, g1, hk _ B σ H ρ c (.int j) _ _ R e1 fun w B1 H1 x dw => ?_⟩
      have hp : H1 a = some (.lst [.int c1.1, .int c1.2]) := x.cell a rfl
      split at e2'
      · rename_i hj
        cases e2'
        subst hj
        exact .inl ⟨a, _, 0, .int c'.1, rfl, dp_int dw, SqL.of hp, rfl, q _ B1 H1 x (.int _)⟩
      · split at e2'
        · rename_i hj
          cases e2'
          subst hj
          exact .inl ⟨a, _, 1, .int c'.2, rfl, dp_int dw, SqL.of hp, rfl, q _ B1 H1 x (.int _)⟩
        · cases e2'
    | _ => cases e2
  · cases e
/-- draws[k] = e -/
def sDrSet (i : Nat) (k a : SE) : SS := fun ρ c => match ρ[i]? with
  | some .dr => (a ρ c).bind fun p => (k ρ p.2).bind fun q => match q.1, p.1 with
    | .int j, .int x => if j = 0 then some (.nx, ρ, (x, q.2.2)) else if j = 1 then some (.nx, ρ, (q.2.1, x)) else none
    | _, _ => none
  | _ => none
theorem Rl.cellSet {B H : Hp} {σ : L2.St} {ρ : Rho} {c c' : Dr} {a : Addr} (R : Rl K (some a) B σ H ρ c) : Rl K (some a) B σ (upd H a (.lst [.int c'.1, .int c'.2])) ρ c' ∧ FwS (some a) B σ H ρ B σ (upd H a (.lst [.int c'.1, .int c'.2])) ρ := by
  have nb : B a = none := R.cfree a rfl
  have ne : ∀ b : Addr, some a ≠ some b → upd H a (.lst [.int c'.1, .int c'.2]) b = H b := fun b h => upd_ne fun z => h (by rw [z])
  refine ⟨⟨fun b o h => ?_, fun b h => (by cases h; exact upd_same), R.cfree, R.len, fun i t e => ?_, R.sep⟩, ⟨Same.refl B, fun b o n h _ => by rw [ne b n]; exact h, fun b o h n => (by rw [h] at n; cases n), fun b h => .inl h⟩⟩
  · rw [ne b (fun z => by cases z; rw [nb] at h; cases h)]; exact R.sub b o h
  · have q := R.slot i t e
    cases t with
    | un => trivial
    | im d => exact q
    | ol xs => obtain ⟨b, vs, e1, e2, e3, e4, e5⟩ := q; exact ⟨b, vs, e1, by rw [ne b e4]; exact e2, e3, e4, e5⟩
    | od xs => obtain ⟨b, vs, e1, e2, e3, e4, e5⟩ := q; exact ⟨b, vs, e1, by rw [ne b e4]; exact e2, e3, e4, e5⟩
    | fd xs => obtain ⟨b, w, vs, e1, e2, e3, e4, e5⟩ := q; exact ⟨b, w, vs, e1, by rw [ne b e4]; exact e2, e3, e4, e5⟩
    | op v => exact q
    | dr => exact q
theorem imp_drSet {i : Nat} {t u : TE} {k a : SE} (hk : ImpE K u k) (h : ImpE K t a) : ImpS K (tAsg t (gSub (tVar i) u rSetL)) (sDrSet i k a) := fun ad B σ H ρ c r D R e q => by
  unfold sDrSet at e
  split at e
  · rename_i e0
    obtain ⟨⟨d, c1⟩, e1, e2⟩ := Option.bind_eq_some_iff.mp e
    obtain ⟨⟨kd, c2⟩, e3, e4⟩ := Option.bind_eq_some_iff.mp e2
    obtain ⟨p, rfl, g1⟩ := R.slot i _ e0
    cases kd with
    | int j =>
      cases d with
      | int x =>
        have e4' : (if j = 0 then some (Fl.nx, ρ, (x, c2.2)) else if j = 1 then some (Fl.nx, ρ, (c2.1, x)) else none) = some r := e4
        refine h _ B σ H ρ c (.int x) c1 _ R e1 fun v B1 H1 y dv => ?_
        have R1 := R.fw y
        refine ⟨.ref p, g1, hk _ B1 σ H1 ρ c1 (.int j) c2 _ R1 e3 fun w B2 H2 z dw => ?_⟩
        have R2 := R1.fw z
        have hp : H2 p = some (.lst [.int c2.1, .int c2.2]) := z.cell p rfl
        have f02 := FwS.trans R R1 (FwS.ofFw R y) (FwS.ofFw R1 z)
        split at e4'
        · rename_i hj
          cases e4'
          subst hj
          rw [dp_int dv]
          obtain ⟨R3, w3⟩ := R2.cellSet (c' := (x, c2.2))
          exact ⟨p, _, 0, 0, rfl, dp_int dw, hp, rfl, q B2 σ _ R3 (FwS.trans R R2 f02 w3)⟩
        · split at e4'
          · rename_i hj
            cases e4'
            subst hj
            rw [dp_int dv]
            obtain ⟨R3, w3⟩ := R2.cellSet (c' := (c2.1, x))
            exact ⟨p, _, 1, 1, rfl, dp_int dw, hp, rfl, q B2 σ _ R3 (FwS.trans R R2 f02 w3)⟩
          · cases e4'
      | _ => cases e4
    | _ => cases e4
  · cases e

/-! ### a law's text -/
def spLaw (K : PySem.W.Frag) : Sp := fun vs H Q _ => ∃ (a : Addr) (ns : List Int), vs = [.ref a] ∧ SqL K H a (ns.map V.int) ∧ ns.length ≤ 63 ∧ ∀ H', Q (.bl true) H'
/-- _law_draws: a new cell -/
def spCell (K : PySem.W.Frag) (F : List Int → Int → Option Dr) : Sp := fun vs H Q _ => ∃ (a : Addr) (ns : List Int) (k : Int) (c : Dr), vs = [.ref a, .int k] ∧ SqL K H a (ns.map V.int) ∧ F ns k = some c ∧
  ∀ p H', Same H H' → H p = none → H' p = some (.lst [.int c.1, .int c.2]) → Q (.ref p) H'
theorem sqL_keep {H H' : Hp} {a : Addr} {ns : List Int} (h : SqL K H a (ns.map V.int)) (k : ∀ o, H a = some o → H' a = some o) : SqL K H' a (ns.map V.int) := by
  rcases h with (h | ⟨o, h⟩) | h
  · exact .inl (.inl (k _ h))
  · exact .inl (.inr ⟨o, k _ h⟩)
  · exact .inr h
def emp : Hp := fun _ => none
theorem same_emp (H : Hp) : Same emp H := fun _ _ h => by cases h
/-- the law's slots behind «draws = _law_draws(script, k)» -/
def rhoL (v : V) (k : Int) (n : Nat) : Rho := .op v :: .im (.int k) :: .dr :: List.replicate n .un
theorem rl_law {H : Hp} {σ : L2.St} {v : V} {k : Int} {n : Nat} {p : Addr} {c : Dr} (hc : H p = some (.lst [.int c.1, .int c.2])) (h0 : σ[0]? = some (some v)) (h1 : σ[1]? = some (some (.int k))) (h2 : σ[2]? = some (some (.ref p))) (hl : σ.length = n + 3) :
    Rl K (some p) emp σ H (rhoL v k n) c := by
  have un : ∀ {i : Nat} {s : Sl}, (List.replicate n Sl.un)[i]? = some s → s = .un := fun {i s} e => by
    have := List.mem_of_getElem? e
    rw [List.mem_replicate] at this
    exact this.2
  have no : ∀ {i : Nat} {s : Sl}, (rhoL v k n)[i]? = some s → owns s = false := fun {i s} e => by
    match i, e with
    | 0, e => simp [rhoL] at e; subst e; rfl
    | 1, e => simp [rhoL] at e; subst e; rfl
    | 2, e => simp [rhoL] at e; subst e; rfl
    | i + 3, e => rw [un (show (List.replicate n Sl.un)[i]? = some s from e)]; rfl
  refine ⟨same_emp H, fun a e => (by cases e; exact hc), fun a e => rfl, by rw [hl]; simp [rhoL], fun i s e => ?_, fun i j s t a _ e1 _ o1 => by rw [no e1] at o1; cases o1⟩
  match i, e with
  | 0, e => simp [rhoL] at e; subst e; exact h0
  | 1, e => simp [rhoL] at e; subst e; exact ⟨_, h1, .int k⟩
  | 2, e => simp [rhoL] at e; subst e; exact ⟨p, rfl, h2⟩
  | i + 3, e => rw [un (show (List.replicate n Sl.un)[i]? = some s from e)]; trivial
section
variable {P : Program} {w : World} {mg : Str → Option Value} {base : Heap} {st : Stmt} {f : Addr} {fd : FuncData} {N : List Str} {k n : Nat} {M : Int}
abbrev rLenS (K : PySem.W.Frag) : List V → Hp → VK → Prop := fun xs H Q => ∃ p ys, xs = [.ref p] ∧ (SqL K H p ys ∨ SqT K H p ys) ∧ Q (.int ys.length) H
theorem okLaw {F : List Int → Int → Option Dr} {g : SS} (Fu : Fun K "law" "law" st f fd) (S : FnScope N ["script"] (defScope st)) (hN : N.length = n + 3) (hM : 0 ≤ M ∧ M ≤ 1000)
    (hb : ∀ (cdv : Value) (A : Around) (outer : List Env) (s : Shared) (H : Hp) (E : XK), Room k (A.deeper (PyProof.Rows.envOfC "law" (defScope st) s.heap.objs.size f cdv)) → ∃ t, PSs (cxOf CX0 P w K mg base N "law" (defScope st) f cdv A outer s H E).nox (defBody st)
      (tSeq (tFor (iRng1 (tCons (tCB (rMaxA K) (tCons (tC (.int 1)) (tCons (tCB (rMinA K) (tCons (tC (.int M)) (tCons (tCB (rLenS K) (tCons (tVar 0) tNil)) tNil))) tNil))) tNil)) (gName 1)
        (tSeq (tAsg (tCall (spCell K F) [] E0 (tCons (tVar 0) (tCons (tVar 1) tNil))) (gName 2)) t)) (tRet (tC (.bl true)))) ∧ ImpS K t g)
    (hF : ∀ (ns : List Int) (i : Nat), ns.length ≤ 63 → i < 1000 → ∃ c, F ns i = some c ∧ ∀ v, ∃ ρ' c', g (rhoL v i n) c = some (.nx, ρ', c') ∧ ρ'[0]? = some (.op v) ∧ ρ'.length = n + 3) :
    FnOk P w K mg base CX0 (k + 1) f fd ["script"] (spLaw K) := by
  refine Fu.ok S (fun vs H Q E h => ?_) fun cdv A outer s H vs Q E hr h => ?_
  · obtain ⟨a, ns, rfl, _⟩ := h
    rfl
  obtain ⟨t, ht, im⟩ := hb cdv A outer s H E hr
  refine ⟨_, ht, ?_⟩
  obtain ⟨a, ns, rfl, hS, hlen, q⟩ := h
  have s0 : (L2.start N [V.ref a])[0]? = some (some (.ref a)) := start_get rfl
  have sl : (L2.start N [V.ref a]).length = n + 3 := by
    unfold L2.start
    rw [List.length_append, List.length_map, List.length_replicate, hN]
    show 1 + (n + 3 - 1) = n + 3
    omega
  have hm : ∃ j : Int, j = (if (if (((ns.map V.int).length : Nat) : Int) < M then (((ns.map V.int).length : Nat) : Int) else M) > 1 then (if (((ns.map V.int).length : Nat) : Int) < M then (((ns.map V.int).length : Nat) : Int) else M) else 1) ∧ 0 ≤ j ∧ j ≤ 1000 := by
    refine ⟨_, rfl, ?_, ?_⟩
    · split <;> omega
    · split
      · split <;> omega
      · omega
  obtain ⟨j, ej, hj0, hj1⟩ := hm
  refine ⟨.ref a, s0, a, _, rfl, .inl hS, .inr ⟨M, _, rfl, .inr ⟨1, _, rfl, j, by rw [ej], by omega, by omega, ?_⟩⟩⟩
  refine for_range (lo := 0) (n := j.toNat) (fun _ σ' H' => σ'.length = n + 3 ∧ σ'[0]? = some (some (.ref a)) ∧ SqL K H' a (ns.map V.int)) ⟨sl, s0, hS⟩ (fun i σ' H' hi hP => ?_) fun σ' H' _ => q H'
  obtain ⟨pl, p0, pS⟩ := hP
  obtain ⟨c, hc, hg⟩ := hF ns i hlen (by omega)
  have g0 : (σ'.set 1 (some (V.int (0 + (i : Int)))))[0]? = some (some (.ref a)) := by rw [List.getElem?_set_ne (by decide)]; exact p0
  have g1 : (σ'.set 1 (some (V.int (0 + (i : Int)))))[1]? = some (some (.int (0 + (i : Int)))) := List.getElem?_set_self (by rw [pl]; omega)
  refine ⟨.ref a, g0, .int (0 + (i : Int)), g1, a, ns, i, c, by rw [Int.zero_add]; rfl, pS, hc, fun p H2 sm np hp => ?_⟩
  obtain ⟨ρ', c', e1, e2, e3⟩ := hg (.ref a)
  have R : Rl K (some p) emp ((σ'.set 1 (some (V.int (0 + (i : Int))))).set 2 (some (.ref p))) H2 (rhoL (.ref a) i n) c := by
    refine rl_law hp ?_ ?_ ?_ ?_
    · rw [List.getElem?_set_ne (by decide)]; exact g0
    · rw [List.getElem?_set_ne (by decide), g1, Int.zero_add]
    · exact List.getElem?_set_self (by rw [List.length_set, pl]; omega)
    · rw [List.length_set, List.length_set]; exact pl
  refine im (some p) emp _ H2 _ c _ _ R e1 ?_
  intro B3 σ3 H3 R3 y
  have no : ¬ Owned (rhoL (.ref a) i n) ((σ'.set 1 (some (V.int (0 + (i : Int))))).set 2 (some (.ref p))) a := fun ⟨j', s', z1, z2, z3⟩ => by
    match j', z1 with
    | 0, z1 => simp [rhoL] at z1; subst z1; cases z2
    | 1, z1 => simp [rhoL] at z1; subst z1; cases z2
    | 2, z1 => simp [rhoL] at z1; subst z1; cases z2
    | j' + 3, z1 =>
      have := List.mem_of_getElem? (show (List.replicate n Sl.un)[j']? = some s' from z1)
      rw [List.mem_replicate] at this
      rw [this.2] at z2; cases z2
  refine ⟨?_, R3.slot 0 _ e2, ?_⟩
  · rw [R3.len, e3]
  · refine sqL_keep pS fun o ho => y.keep a o (fun z => ?_) (sm a o ho) no
    cases z
    rw [np] at ho; cases ho
end
end
end DL
/-! DLl: the cell a law draws from, as its script tells it; range of three; keywords alone. -/
namespace DL
open PySem PySem.Spec L2
def cell0 (ns : List Int) (k : Nat) : Int :=
  if k < ns.length then (ns.getD k 0) % (10 ^ 300) else if 0 < ns.length then (ns.getD (k % ns.length) 0) % 10 ^ 15 + 15485863 * (k : Int) else 15485863 * (k : Int)
def cellF (ns : List Int) (k : Int) : Option Dr :=
  if 0 ≤ k ∧ k < 1000 ∧ ns.length ≤ 63 then
    some (if 10 ^ 18 ≤ cell0 ns k.toNat then cell0 ns k.toNat else 0, 1 + (cell0 ns k.toNat * 69621 + 86028121 * (k + 1)) % 2147483646)
  else none
/-- a cell that the law may draw from -/
def OkDr (c : Dr) : Prop := 0 ≤ c.1 ∧ 0 ≤ c.2 ∧ c.2 < 2147483647 ∧ c.1 < 10 ^ 300
theorem cell0_lt (ns : List Int) (k : Nat) (hk : k < 1000) : 0 ≤ cell0 ns k ∧ cell0 ns k < 10 ^ 300 := by
  unfold cell0
  split
  · omega
  · split
    · omega
    · omega
theorem cellF_ok {ns : List Int} {i : Nat} (h1 : ns.length ≤ 63) (h2 : i < 1000) : ∃ c, cellF ns i = some c ∧ OkDr c := by
  unfold cellF
  rw [if_pos ⟨by omega, by omega, h1⟩]
  refine ⟨_, rfl, ?_⟩
  rw [Int.toNat_natCast]
  have := cell0_lt ns i h2
  generalize cell0 ns i = z at *
  unfold OkDr
  dsimp only
  split <;> omega
section
variable {K : PySem.W.Frag}
/-! ### range(i, j, c) -/
def stpL (lo c : Int) (n : Nat) : List D := (List.range n).map fun i => .int (lo + (i : Nat) * c)
theorem stpL_get {lo c : Int} {n i : Nat} {d : D} (h : (stpL lo c n)[i]? = some d) : i < n ∧ d = .int (lo + i * c) := by
  unfold stpL at h
  rw [List.getElem?_map] at h
  obtain ⟨k, e1, e2⟩ := Option.map_eq_some_iff.mp h
  obtain ⟨e3, e4⟩ := List.getElem?_eq_some_iff.mp e1
  rw [List.length_range] at e3
  rw [List.getElem_range] at e4
  subst e4
  exact ⟨e3, e2.symm⟩
theorem walk_stp (B : Hp) (lo c : Int) (n : Nat) : Walk K (Itc lo c n) B (stpL lo c n) := fun B2 H2 m1 m2 => ⟨Nat.le_of_eq (by unfold stpL; simp), fun i d hd => by
  obtain ⟨h1, rfl⟩ := stpL_get hd
  refine ⟨h1, fun y H3 hy => ?_⟩
  obtain ⟨rfl, rfl⟩ := hy
  exact ⟨B2, Grow.refl m2, .int _⟩⟩
def okR3 (i j c : Int) : Bool := decide (i.natAbs ≤ 1000000 ∧ j.natAbs ≤ 1000000 ∧ 0 < c ∧ c.natAbs ≤ 1000000)
theorem okR3_to {i j c : Int} (h : okR3 i j c = true) : c ≠ 0 ∧ c.natAbs < 1073741824 ∧ Builtin.Range.small i j c = true := by
  obtain ⟨h1, h2, h3, h4⟩ := of_decide_eq_true h
  refine ⟨by omega, by omega, ?_⟩
  unfold Builtin.Range.small Builtin.Range.rangeSize
  have e : c > 0 := h3
  simp only [Builtin.Range.rangeFitsLong, Bool.and_eq_true, Bool.or_eq_true, decide_eq_true_eq, beq_iff_eq, if_pos e]
  have hd : ∀ m : Int, 0 ≤ m → m ≤ 3000000 → 0 ≤ m / c ∧ m / c ≤ 3000000 := fun m h0 hm => ⟨Int.ediv_nonneg h0 (by omega), Int.le_trans (Int.ediv_le_self c h0) hm⟩
  split
  · have := hd (j - i - 1) (by omega) (by omega)
    omega
  · omega
def sR3 (a : SA) : SI := fun ρ c => (a ρ c).bind fun p => match p.1 with
  | [.int i, .int j, .int e] => if okR3 i j e = true then some (stpL i e (Builtin.Range.rangeSize i j e).toNat, p.2) else none
  | _ => none
theorem imp_r3 {t : TA} {a : SA} (h : ImpA K t a) : ImpI K (iRng3 t) (sR3 a) := fun ad B σ H ρ c xs c' Q R e q => by
  obtain ⟨⟨ds, c1⟩, e1, e2⟩ := Option.bind_eq_some_iff.mp e
  refine h ad B σ H ρ c ds c1 _ R e1 fun vs B' H' x dv => ?_
  split at e2
  · rename_i p i j k e3
    have e3' : ds = [.int i, .int j, .int k] := e3
    subst e3'
    split at e2
    · rename_i hj
      cases e2
      cases dv with
      | cons d1 r1 =>
        cases r1 with
        | cons d2 r2 =>
          cases r2 with
          | cons d3 r3 =>
            cases r3
            obtain ⟨h1, h2, h3⟩ := okR3_to hj
            exact ⟨i, j, k, _, by rw [dp_int d1, dp_int d2, dp_int d3], ⟨h1, h2, h3, PyProof.Rows.rangeSize_toNat i j k⟩, q _ B' H' x (walk_stp B' i k _)⟩
    · cases e2
  · cases e2
end
section
variable {X : Cx} {CX : CXT} {k : Nat} {f C : Addr} {fd : FuncData} {ps ks : List Str} {sp : Sp} {E : XK} {x m : Str} {p pos apos kpos : Pos} {e o : Expr} {es : List Expr} {kws : List Keyword} {te ta : TE} {t tk : TA} {nm : Option Str}
variable {g : List Value → List Value → List Value} {gV : List V → List V → List V}
/-- f(k = v, ..), nothing by position -/
theorem pe_callK0 (F : FnOk X.prog X.w X.K X.mg X.base CX k f fd ps sp) (hr : Room k X.A) (hg : Gl X x) (hm : X.mg x = some (.ref f)) (hk : PySem.W.keepIn X.K (.ref f) = true) (hb : KBinds X.K fd ps ks g gV) (hx : Passes CX X E)
    (hkw : PK X kws tk) (hall : (backToKw pos (keywordEach kws X.env)).all (·.1.isSome) = true := by rfl) (hks : (backToKw pos (keywordEach kws X.env)).filterMap (·.1) = ks := by rfl)
    (hdb : (x == ("__debug__" : Str)) = false := by decide)
    (hpl : ((backTo pos (starEach [] X.env)).any (·.1) || (backToKw pos (keywordEach kws X.env)).any (·.1.isNone)) = false := by rfl) :
    PE X (.Call (.Name x p) [] kws pos) (tCallK sp gV E tNil tk) := by
  refine ⟨fun pins s σ H Q I h => ?_⟩
  refine wpAny_Call_Name_kw (ld_glob I hg hm ?_ hdb)
  refine PySem.W.callWith_KW0 (h₀ := X.base) I.ok.mod.kin hk hall (thn (hkw.run pos pins s σ H _ I h) fun ws s2 ⟨zs, H2, I2, rz, q2⟩ => ⟨I2.kIn, ?_⟩) hpl
  rw [hks]
  exact run_fnk (us := []) (vs := []) F hr hb hx I2 .nil rz q2
end

/-! ### keywords: the parameters' order -/
def kgo (a b : Nat) (order : List Nat) {α : Type} (us ws : List α) : List α := if us.length = a ∧ ws.length = b then order.filterMap fun i => (us ++ ws)[i]? else []
theorem vals_order {xs : List V} {us : List Value} (r : Vals xs us) : ∀ order : List Nat, Vals (order.filterMap fun i => xs[i]?) (order.filterMap fun i => us[i]?)
  | [] => .nil
  | i :: o => by
    rw [List.filterMap_cons, List.filterMap_cons]
    cases q : xs[i]? with
    | none =>
      have : us[i]? = none := by
        rw [List.getElem?_eq_none_iff] at q ⊢
        rw [← r.length]; exact q
      rw [this]
      exact vals_order r o
    | some v =>
      obtain ⟨u, e1, e2⟩ := r.get q
      rw [e1]
      exact .cons e2 (vals_order r o)
theorem dpAll_order {K : PySem.W.Frag} {B : Hp} {ds : List D} {vs : List V} (r : DpAll K B vs ds) : ∀ order : List Nat, DpAll K B (order.filterMap fun i => vs[i]?) (order.filterMap fun i => ds[i]?)
  | [] => .nil
  | i :: o => by
    rw [List.filterMap_cons, List.filterMap_cons]
    cases q : ds[i]? with
    | none =>
      have : vs[i]? = none := by
        rw [List.getElem?_eq_none_iff] at q ⊢
        rw [dpAll_len r]; exact q
      rw [this]
      exact dpAll_order r o
    | some v =>
      obtain ⟨u, e1, e2⟩ := dpAll_get r q
      rw [e1]
      exact .cons e2 (dpAll_order r o)
theorem kgOk {K : PySem.W.Frag} (a b : Nat) (order : List Nat) (B : Hp) (vs us : List V) (ds es : List D) (h1 : DpAll K B vs ds) (h2 : DpAll K B us es) : DpAll K B (kgo a b order vs us) (kgo a b order ds es) := by
  unfold kgo
  rw [dpAll_len h1, dpAll_len h2]
  split
  · exact dpAll_order (dpAll_append h1 h2) order
  · exact .nil
theorem kb_of {K : PySem.W.Frag} {x qual : Str} {st : Stmt} {f : Addr} {fd : FuncData} {ps ks : List Str} (a b : Nat) (order : List Nat) (F : Fun K x qual st f fd) (hp : ps ≠ [])
    (h : ∀ (kV doc pm : Value) (an : Option Addr) (cdv ct : Value) (us ws : List Value), us.length = a → ws.length = b → bindArgs (PySem.W.fnOf x qual (defArgs st) (defBody st) (defScope st) .none kV doc pm an cdv ct) ⟨us, ks.zip ws⟩ = pure (ps.zip (kgo a b order us ws))) : KBinds K fd ps ks (kgo a b order) (kgo a b order) := by
  obtain ⟨oc, od, kV, doc, pm, an, cdv, ct, osl, rfl, lk, hcd⟩ := F.ex
  refine ⟨fun s us ws _ hl => ?_, fun {vs us zs ws} r rz => ?_⟩
  · by_cases hz : us.length = a ∧ ws.length = b
    · exact .of_eq (h kV doc pm an cdv ct us ws hz.1 hz.2)
    · unfold kgo at hl
      rw [if_neg hz] at hl
      cases ps with
      | nil => exact absurd rfl hp
      | cons => cases hl
  · unfold kgo
    rw [r.length, rz.length]
    split
    · exact vals_order (Vals.append r rz) order
    · exact .nil
end DL
/-! DLm: _law_draws read by hand. -/
namespace DL
open PySem PySem.Spec L2
section
variable {K : PySem.W.Frag} {σ : L2.St} {H : Hp}
/-- evaluates to v, and changes nothing -/
def Ev (t : TE) (σ : L2.St) (H : Hp) (v : V) : Prop := ∀ H1, Same H H1 → ∀ Q : VK, (∀ H2, Same H1 H2 → Q v H2) → t σ H1 Q
theorem ev_c {v : V} : Ev (tC v) σ H v := fun H1 _ Q q => q H1 (Same.refl H1)
theorem ev_v {i : Nat} {v : V} (h : σ[i]? = some (some v)) : Ev (tVar i) σ H v := fun H1 _ Q q => ⟨v, h, q H1 (Same.refl H1)⟩
theorem Ev.up {t : TE} {v : V} {H' : Hp} (h : Ev t σ H v) (s : Same H H') : Ev t σ H' v := fun H1 s1 Q q => h H1 (s.trans s1) Q q
theorem ev_op {r : R2} {g : D → D → Option D} (h : OpD K r g) {ta tb : TE} {a b : Int} {v : V} {z : D} (ha : Ev ta σ H (.int a)) (hb : Ev tb σ H (.int b)) (e : g (.int a) (.int b) = some z) (hz : ∀ B u, Dp K B u z → u = v) : Ev (tOp r ta tb) σ H v := fun H1 s Q q => by
  refine ha H1 s _ fun H2 s2 => ?_
  refine hb H2 (s.trans s2) _ fun H3 s3 => ?_
  exact h emp H3 _ _ _ _ z _ (same_emp H3) (.int a) (.int b) e fun u B' H' gr d => by
    rw [hz _ _ d]
    exact q H' (s2.trans (s3.trans gr.hh))
theorem ev_opI {r : R2} {g : D → D → Option D} (h : OpD K r g) {ta tb : TE} {a b z : Int} (ha : Ev ta σ H (.int a)) (hb : Ev tb σ H (.int b)) (e : g (.int a) (.int b) = some (.int z)) : Ev (tOp r ta tb) σ H (.int z) :=
  ev_op h ha hb e fun _ _ d => dp_int d
theorem ev_opB {r : R2} {g : D → D → Option D} (h : OpD K r g) {ta tb : TE} {a b : Int} {z : Bool} (ha : Ev ta σ H (.int a)) (hb : Ev tb σ H (.int b)) (e : g (.int a) (.int b) = some (.bool z)) : Ev (tOp r ta tb) σ H (.bl z) :=
  ev_op h ha hb e fun _ _ d => dp_bool d
theorem same_keep {H H' : Hp} (s : Same H H') {a : Addr} : ∀ o, H a = some o → H' a = some o := fun o h => s a o h
theorem ev_len {a : Addr} {ns : List Int} (h0 : σ[0]? = some (some (.ref a))) (hS : SqL K H a (ns.map V.int)) : Ev (tCB (rLenS K) (tCons (tVar 0) tNil)) σ H (.int ns.length) := fun H1 s Q q => by
  refine ⟨.ref a, h0, a, ns.map V.int, rfl, .inl (sqL_keep hS (same_keep s)), ?_⟩
  rw [List.length_map]
  exact q H1 (Same.refl H1)
theorem ev_ix {a : Addr} {ns : List Int} {u : TE} {k : Nat} (h0 : σ[0]? = some (some (.ref a))) (hS : SqL K H a (ns.map V.int)) (hu : Ev u σ H (.int (k : Int))) (hk : k < ns.length) : Ev (tOp (rIx K) (tVar 0) u) σ H (.int (ns.getD k 0)) := fun H1 s Q q => by
  refine ⟨.ref a, h0, hu H1 s _ fun H2 s2 => ?_⟩
  refine .inl ⟨a, ns.map V.int, (k : Int), .int (ns.getD k 0), rfl, rfl, sqL_keep hS (same_keep (s.trans s2)), ?_, q H2 s2⟩
  refine atI_nat ?_
  rw [List.getElem?_map, List.getElem?_eq_getElem hk]
  simp [List.getD, List.getElem?_eq_getElem hk]
theorem ev_intB {t : TE} {b : Bool} (h : Ev t σ H (.bl b)) : Ev (tCB (fun xs H Q => (∃ i, xs = [.int i] ∧ Q (.int i) H) ∨ ∃ k, xs = [.bl k] ∧ Q (.int (if k then 1 else 0)) H) (tCons t tNil)) σ H (.int (if b then 1 else 0)) := fun H1 s Q q => by
  refine h H1 s _ fun H2 s2 => ?_
  exact .inr ⟨b, rfl, q H2 s2⟩
theorem mul_big {a b : Int} (ha : -1073741824 < a) (ha' : a < 1073741824) : mulD (.int a) (.int b) = some (.int (a * b)) := by
  show (if midI a = true ∨ midI b = true ∨ a.natAbs.log2 + b.natAbs.log2 < 1000000 then some (PyData.int (a * b)) else none) = _
  rw [if_pos (.inl (decide_eq_true (by show a.natAbs < 2 ^ 64; omega)))]
theorem log2_le_of_lt {n k : Nat} (h : n < 2 ^ (k + 1)) : n.log2 ≤ k := by
  by_cases hn : n = 0
  · subst hn; simp
  · have := (Nat.log2_lt hn).mpr h
    omega
theorem mul_wide {a b : Int} (ha : a.natAbs < 10 ^ 308) (hb : b.natAbs < 10 ^ 308) : mulD (.int a) (.int b) = some (.int (a * b)) := by
  show (if midI a = true ∨ midI b = true ∨ a.natAbs.log2 + b.natAbs.log2 < 1000000 then some (PyData.int (a * b)) else none) = _
  have h1 := log2_le_of_lt (k := 1100) (Nat.lt_trans ha (by decide +kernel))
  have h2 := log2_le_of_lt (k := 1100) (Nat.lt_trans hb (by decide +kernel))
  rw [if_pos (.inr (.inr (by omega)))]

abbrev tPow (a b : Int) : TE := tOp (rI CPow fun i j => .int (i ^ j.toNat)) (tC (.int a)) (tC (.int b))
abbrev tMul (K : PySem.W.Frag) : TE → TE → TE := tOp (rMulA K)
abbrev tAdd (K : PySem.W.Frag) : TE → TE → TE := tOp (rAddA K)
abbrev tMod : TE → TE → TE := tOp (rI (fun _ j => 0 < j) fun i j => .int (i % j))
abbrev tLen0 (K : PySem.W.Frag) : TE := tCB (rLenS K) (tCons (tVar 0) tNil)
def drawsT (K : PySem.W.Frag) : TS := tSeq (tAsg (tMul K (tC (.int 15485863)) (tVar 1)) (gName 2))
  (tSeq (tIfS (tTest (tOp (rI0 fun i j => .bl (decide (i < j))) (tVar 1) (tLen0 K)))
    (tAsg (tMod (tOp (rIx K) (tVar 0) (tVar 1)) (tMul K (tMul K (tMul K (tMul K (tPow 10 60) (tPow 10 60)) (tPow 10 60)) (tPow 10 60)) (tPow 10 60))) (gName 2))
    (tIfS (tTest (tOp (rI0 fun i j => .bl (decide (j < i))) (tLen0 K) (tC (.int 0))))
      (tAsg (tAdd K (tMod (tOp (rIx K) (tVar 0) (tMod (tVar 1) (tLen0 K))) (tPow 10 15)) (tMul K (tC (.int 15485863)) (tVar 1))) (gName 2)) tNext))
    (tRet (tLst (tCons (tMul K (tVar 2) (tCB (fun xs H Q => (∃ i, xs = [.int i] ∧ Q (.int i) H) ∨ ∃ k, xs = [.bl k] ∧ Q (.int (if k then 1 else 0)) H) (tCons (tOp (rI0 fun i j => .bl (decide (j ≤ i))) (tVar 2) (tPow 10 18)) tNil)))
      (tCons (tAdd K (tC (.int 1)) (tMod (tAdd K (tMul K (tVar 2) (tC (.int 69621))) (tMul K (tC (.int 86028121)) (tAdd K (tVar 1) (tC (.int 1))))) (tC (.int 2147483646)))) tNil)))))
theorem ev_pow (K : PySem.W.Frag) {a b z : Int} (e : powD (.int a) (.int b) = some (.int z)) : Ev (tPow a b) σ H (.int z) := ev_opI (d_pow (K := K)) ev_c ev_c e
theorem ev_asg {t : TE} {i : Nat} {v : V} {D : Ends} (h : Ev t σ H v) (q : ∀ H', Same H H' → D.nx (σ.set i (some v)) H') : tAsg t (gName i) D σ H := h H (Same.refl H) _ fun H2 s => q H2 s
theorem ev_if {t : TE} {b : Bool} {u v : TS} {D : Ends} (h : Ev t σ H (.bl b)) (q : ∀ H', Same H H' → if b = true then u D σ H' else v D σ H') : tIfS (tTest t) u v D σ H := h H (Same.refl H) _ fun H2 s => ⟨b, rfl, q H2 s⟩
theorem draws_tail {k z : Int} {D : Ends} (hk : 0 ≤ k ∧ k < 1000) (hz : 0 ≤ z ∧ z < 10 ^ 300) (h1 : σ[1]? = some (some (.int k))) (h2 : σ[2]? = some (some (.int z)))
    (q : ∀ p H', Same H H' → H p = none → H' p = some (.lst [.int (if 10 ^ 18 ≤ z then z else 0), .int (1 + (z * 69621 + 86028121 * (k + 1)) % 2147483646)]) → D.rt (.ref p) H') :
    tRet (tLst (tCons (tMul K (tVar 2) (tCB (fun xs H Q => (∃ i, xs = [.int i] ∧ Q (.int i) H) ∨ ∃ k, xs = [.bl k] ∧ Q (.int (if k then 1 else 0)) H) (tCons (tOp (rI0 fun i j => .bl (decide (j ≤ i))) (tVar 2) (tPow 10 18)) tNil)))
      (tCons (tAdd K (tC (.int 1)) (tMod (tAdd K (tMul K (tVar 2) (tC (.int 69621))) (tMul K (tC (.int 86028121)) (tAdd K (tVar 1) (tC (.int 1))))) (tC (.int 2147483646)))) tNil))) D σ H := by
  have e1 : Ev (tMul K (tVar 2) (tCB (fun xs H Q => (∃ i, xs = [.int i] ∧ Q (.int i) H) ∨ ∃ k, xs = [.bl k] ∧ Q (.int (if k then 1 else 0)) H) (tCons (tOp (rI0 fun i j => .bl (decide (j ≤ i))) (tVar 2) (tPow 10 18)) tNil))) σ H (.int (if 10 ^ 18 ≤ z then z else 0)) := by
    have e0 : Ev (tOp (rI0 fun i j => .bl (decide (j ≤ i))) (tVar 2) (tPow 10 18)) σ H (.bl (decide ((10 : Int) ^ 18 ≤ z))) := ev_opB (d_ge (K := K)) (ev_v h2) (ev_pow K rfl) rfl
    refine ev_opI d_mul (ev_v h2) (ev_intB e0) ?_
    rw [mul_wide (by omega) (by split <;> decide)]
    by_cases w : (10 : Int) ^ 18 ≤ z
    · rw [if_pos (decide_eq_true w), if_pos w, Int.mul_one]
    · rw [if_neg (by rw [decide_eq_true_eq]; exact w), if_neg w, Int.mul_zero]
  have e2 : Ev (tAdd K (tC (.int 1)) (tMod (tAdd K (tMul K (tVar 2) (tC (.int 69621))) (tMul K (tC (.int 86028121)) (tAdd K (tVar 1) (tC (.int 1))))) (tC (.int 2147483646)))) σ H (.int (1 + (z * 69621 + 86028121 * (k + 1)) % 2147483646)) :=
    ev_opI d_add ev_c (ev_opI (d_mod (K := K)) (ev_opI d_add (ev_opI d_mul (ev_v h2) ev_c (mul_wide (by omega) (by decide))) (ev_opI d_mul ev_c (ev_opI d_add (ev_v h1) ev_c rfl) (mul_big (by decide) (by decide))) rfl) ev_c rfl) rfl
  refine e1 H (Same.refl H) _ fun H1 s1 => ?_
  refine e2 H1 s1 _ fun H2 s2 => ?_
  refine ⟨by rw [sizeLine_eq]; show 2 ≤ _; decide, fun p np => ?_⟩
  have s12 := s1.trans s2
  exact q p _ (s12.trans (same_new np)) (s12.free np) upd_same
theorem draws_read {N : List Str} {a : Addr} {ns : List Int} {k : Int} {c : Dr} {D : Ends} (hN : N.length = 3) (hS : SqL K H a (ns.map V.int)) (hF : cellF ns k = some c)
    (q : ∀ p H', Same H H' → H p = none → H' p = some (.lst [.int c.1, .int c.2]) → D.rt (.ref p) H') : drawsT K D (L2.start N [.ref a, .int k]) H := by
  unfold cellF at hF
  split at hF
  · rename_i hk
    cases hF
    obtain ⟨k, rfl⟩ : ∃ j : Nat, k = (j : Int) := ⟨k.toNat, by omega⟩
    rw [Int.toNat_natCast] at q
    have g0 : (L2.start N [V.ref a, .int k])[0]? = some (some (.ref a)) := start_get rfl
    have g1 : (L2.start N [V.ref a, .int k])[1]? = some (some (.int k)) := start_get rfl
    have gl : (L2.start N [V.ref a, .int k]).length = 3 := by
      unfold L2.start
      rw [List.length_append, List.length_map, List.length_replicate, hN]
      rfl
    generalize L2.start N [V.ref a, .int k] = σ at g0 g1 gl
    refine ev_asg (ev_opI d_mul ev_c (ev_v g1) (mul_big (by decide) (by decide))) fun H1 s1 => ?_
    have st : ∀ v : V, (σ.set 2 (some v))[0]? = some (some (.ref a)) ∧ (σ.set 2 (some v))[1]? = some (some (.int k)) ∧ (σ.set 2 (some v))[2]? = some (some v) ∧ (σ.set 2 (some v)).set 2 = σ.set 2 := fun v =>
      ⟨by rw [List.getElem?_set_ne (by decide)]; exact g0, by rw [List.getElem?_set_ne (by decide)]; exact g1, List.getElem?_set_self (by rw [gl]; decide), by funext o; rw [List.set_set]⟩
    obtain ⟨h0, h1, h2, h3⟩ := st (.int (15485863 * k))
    have hS1 := sqL_keep hS (same_keep s1)
    have ci := cell0_lt ns k (by omega)
    refine ev_if (ev_opB (d_lt (K := K)) (ev_v h1) (ev_len h0 hS1) rfl) fun H2 s2 => ?_
    have hS2 := sqL_keep hS1 (same_keep s2)
    by_cases c1 : k < ns.length
    · rw [if_pos (decide_eq_true (by omega))]
      have ez : cell0 ns k = ns.getD k 0 % 10 ^ 300 := by unfold cell0; rw [if_pos c1]
      have p1 : Ev (tPow 10 60) (σ.set 2 (some (.int (15485863 * (k : Int))))) H2 (.int (10 ^ 60)) := ev_pow K rfl
      have p2 := ev_opI (d_mul (K := K)) p1 p1 (z := 10 ^ 120) (by rw [mul_wide (by decide +kernel) (by decide +kernel)]; congr 2)
      have p3 := ev_opI (d_mul (K := K)) p2 p1 (z := 10 ^ 180) (by rw [mul_wide (by decide +kernel) (by decide +kernel)]; congr 2)
      have p4 := ev_opI (d_mul (K := K)) p3 p1 (z := 10 ^ 240) (by rw [mul_wide (by decide +kernel) (by decide +kernel)]; congr 2)
      have p5 := ev_opI (d_mul (K := K)) p4 p1 (z := 10 ^ 300) (by rw [mul_wide (by decide +kernel) (by decide +kernel)]; congr 2)
      refine ev_asg (ev_opI (d_mod (K := K)) (ev_ix h0 hS2 (ev_v h1) c1) p5 (z := cell0 ns k) ?_) fun H3 s3 => ?_
      · rw [ez]
        show (if (0 : Int) < 10 ^ 300 then some (PyData.int (ns.getD k 0 % 10 ^ 300)) else none) = _
        rw [if_pos (by decide +kernel)]
      · rw [List.set_set]
        obtain ⟨_, z1, z2, _⟩ := st (.int (cell0 ns k))
        exact draws_tail ⟨by omega, by omega⟩ ci z1 z2 fun p H' s4 np hp => q p H' (s1.trans (s2.trans (s3.trans s4))) ((s1.trans (s2.trans s3)).free np) hp
    · rw [if_neg (by rw [decide_eq_true_eq]; omega)]
      refine ev_if (ev_opB (d_gt (K := K)) (ev_len h0 hS2) ev_c rfl) fun H3 s3 => ?_
      have hS3 := sqL_keep hS2 (same_keep s3)
      by_cases c2 : 0 < ns.length
      · rw [if_pos (decide_eq_true (by omega))]
        have ez : cell0 ns k = ns.getD (k % ns.length) 0 % 10 ^ 15 + 15485863 * (k : Int) := by unfold cell0; rw [if_neg c1, if_pos c2]
        have em : modD (.int (k : Int)) (.int (ns.length : Int)) = some (.int ((k % ns.length : Nat) : Int)) := by
          show (if (0 : Int) < ns.length then some (PyData.int ((k : Int) % (ns.length : Int))) else none) = _
          rw [if_pos (by omega)]
          rfl
        refine ev_asg (ev_opI d_add (ev_opI (d_mod (K := K)) (ev_ix h0 hS3 (ev_opI (d_mod (K := K)) (ev_v h1) (ev_len h0 hS3) em) (Nat.mod_lt _ c2)) (ev_pow K rfl) rfl) (ev_opI d_mul ev_c (ev_v h1) (mul_big (by decide) (by decide))) (z := cell0 ns k) (by rw [ez]; rfl)) fun H4 s4 => ?_
        rw [List.set_set]
        obtain ⟨_, z1, z2, _⟩ := st (.int (cell0 ns k))
        exact draws_tail ⟨by omega, by omega⟩ ci z1 z2 fun p H' s5 np hp => q p H' (s1.trans (s2.trans (s3.trans (s4.trans s5)))) ((s1.trans (s2.trans (s3.trans s4))).free np) hp
      · rw [if_neg (by rw [decide_eq_true_eq]; omega)]
        have ez : cell0 ns k = 15485863 * (k : Int) := by unfold cell0; rw [if_neg c1, if_neg c2]
        rw [ez] at q ci
        exact draws_tail ⟨by omega, by omega⟩ ci h1 h2 fun p H' s5 np hp => q p H' (s1.trans (s2.trans (s3.trans s5))) ((s1.trans (s2.trans s3)).free np) hp
  · cases hF
end
end DL
/-! DLn: the rules that name the fragment, with the fragment given. -/
namespace DL
open PySem PySem.Spec L2
section
variable {X : Cx} {K : PySem.W.Frag}
theorem op_addK (h : X.K = K) : OpR X (binaryOp .Add) (rAddA K) := by subst h; exact op_addA
theorem op_mulK (h : X.K = K) : OpR X (binaryOp .Mult) (rMulA K) := by subst h; exact op_mulA
theorem op_eqK (h : X.K = K) (hu : X.A.units + 64 < cLine) : OpR X (compareOp .Eq) (rEqD K) := by subst h; exact op_eqD hu
theorem op_neK (h : X.K = K) (hu : X.A.units + 64 < cLine) : OpR X (compareOp .NotEq) (rNeD K) := by subst h; exact op_neD hu
theorem op_inK (h : X.K = K) (hu : X.A.units + 65 < cLine) : OpR X (compareOp .In) (rInA K) := by subst h; exact op_inA hu
theorem op_notInK (h : X.K = K) (hu : X.A.units + 65 < cLine) : OpR X (compareOp .NotIn) (rNotInA K) := by subst h; exact op_notInA hu
theorem ix_K (h : X.K = K) : IxR X (rIx K) := by subst h; exact ix_seq
theorem call_maxK (h : X.K = K) (hc : X.calm = true) : CallR X (.builtin "max") (rMaxA K) := by subst h; exact call_maxA hc
theorem call_minK (h : X.K = K) (hc : X.calm = true) : CallR X (.builtin "min") (rMinA K) := by subst h; exact call_minA hc
theorem cr_sumK (h : X.K = K) (hc : X.calm = true) : CallR X (.builtin "sum") (rSum K) := by subst h; exact cr_sum hc
theorem cr_anyK (h : X.K = K) (hc : X.calm = true) : CallR X (.builtin "any") (rAny K) := by subst h; exact cr_any hc
theorem cr_allK (h : X.K = K) (hc : X.calm = true) : CallR X (.builtin "all") (rAll K) := by subst h; exact cr_all hc
theorem call_lenK (h : X.K = K) : CallR X (.builtin "len") (rLenS K) := by subst h; exact call_len_seq
theorem call_listK (h : X.K = K) : CallR X (.type "list") (fun xs H Q => ∃ p ys, xs = [.ref p] ∧ (SqL K H p ys ∨ SqT K H p ys) ∧ ∀ l, H l = none → Q (.ref l) (upd H l (.lst ys))) := by subst h; exact call_list_of
theorem call_tupleK (h : X.K = K) : CallR X (.type "tuple") (fun xs H Q => ∃ p ys, xs = [.ref p] ∧ ((SqL K H p ys ∧ ∀ l, H l = none → Q (.ref l) (upd H l (.tup ys))) ∨ (SqT K H p ys ∧ Q (.ref p) H))) := by subst h; exact call_tuple_of
theorem sl_K (h : X.K = K) : SlR X (rSlX K) := by subst h; exact sl_any
end
end DL
/-! DLo: order of tuples of ints. -/
namespace DL
open PySem PySem.Spec L2 PyProof.Rows
/-- the greater of two lists, from the first pair that differs on -/
def lexGt : List Int → List Int → Bool
  | [], _ => false
  | _ :: _, [] => true
  | x :: xs, y :: ys => if x = y then lexGt xs ys else decide (y < x)
theorem lexAt_shift {e r : Nat → Bool} {z : Bool} : ∀ {k i : Nat}, Ob.lexAt e r z (i + 1) k = Ob.lexAt (fun j => e (j + 1)) (fun j => r (j + 1)) z i k
  | 0, i => rfl
  | k + 1, i => by
    rw [Ob.lexAt_succ, Ob.lexAt_succ, lexAt_shift]
theorem lexGt_at : ∀ (ns ms : List Int), Ob.lexAt (fun j => decide (ns.getD j 0 = ms.getD j 0)) (fun j => decide (ms.getD j 0 < ns.getD j 0)) (decide (ns.length > ms.length)) 0 (min ns.length ms.length) = lexGt ns ms
  | [], ms => by
    rw [List.length_nil, Nat.zero_min, Ob.lexAt_zero]
    exact decide_eq_false (by omega)
  | n :: ns, [] => by
    rw [List.length_nil, Nat.min_zero, Ob.lexAt_zero]
    exact decide_eq_true (by simp)
  | n :: ns, m :: ms => by
    have e1 : min (n :: ns).length (m :: ms).length = min ns.length ms.length + 1 := by rw [List.length_cons, List.length_cons]; omega
    rw [e1, Ob.lexAt_succ, lexAt_shift]
    show (if decide (n = m) = true then Ob.lexAt (fun j => decide (ns.getD j 0 = ms.getD j 0)) (fun j => decide (ms.getD j 0 < ns.getD j 0)) (decide ((n :: ns).length > (m :: ms).length)) 0 (min ns.length ms.length) else decide (m < n)) = if n = m then lexGt ns ms else decide (m < n)
    have e2 : decide ((n :: ns).length > (m :: ms).length) = decide (ns.length > ms.length) := by
      rw [List.length_cons, List.length_cons]
      by_cases h : ns.length > ms.length
      · rw [decide_eq_true h, decide_eq_true (by omega)]
      · rw [decide_eq_false h, decide_eq_false (by omega)]
    rw [e2, lexGt_at ns ms]
    by_cases h : n = m
    · rw [if_pos (decide_eq_true h), if_pos h]
    · rw [if_neg (by rw [decide_eq_true_eq]; exact h), if_neg h]
def rGtT (K : PySem.W.Frag) : R2 := fun x y H Q => ∃ (a b : Addr) (ns ms : List Int), x = .ref a ∧ y = .ref b ∧ SqT K H a (ns.map V.int) ∧ SqT K H b (ms.map V.int) ∧ Q (.bl (lexGt ns ms)) H
theorem op_gtT {X : Cx} (hu : X.A.units < cLine) : OpR X (compareOp .Gt) (rGtT X.K) := by
  intro pins s σ H x y v u Q I rx ry h
  obtain ⟨a, b, ns, ms, rfl, rfl, ha, hb, q⟩ := h
  cases rx
  cases ry
  obtain ⟨its, r1, p1, _⟩ := I.tuple ha
  obtain ⟨its2, r2, p2, _⟩ := I.tuple hb
  have i1 : IntsAre its ns := Vals.ints r1
  have i2 : IntsAre its2 ms := Vals.ints r2
  have e1 : its.toArray.size = ns.length := by rw [List.size_toArray]; exact i1.length
  have e2 : its2.toArray.size = ms.length := by rw [List.size_toArray]; exact i2.length
  have at1 : ∀ j (h1 : j < its.toArray.size), ∃ t, its.toArray[j] = .int (ns.getD j 0) t := fun j h1 => IntsAre.int_at i1 _ _ (by simp at h1; simp [h1])
  have at2 : ∀ j (h1 : j < its2.toArray.size), ∃ t, its2.toArray[j] = .int (ms.getD j 0) t := fun j h1 => IntsAre.int_at i2 _ _ (by simp at h1; simp [h1])
  have W := Ob.RcOp.tuples_gt (A := X.A) (s := s) (e := fun j => decide (ns.getD j 0 = ms.getD j 0)) (r := fun j => decide (ms.getD j 0 < ns.getD j 0)) p1 p2 hu (fun j h1 h2 => by
    obtain ⟨t, et⟩ := at1 j h1
    obtain ⟨t', et'⟩ := at2 j h2
    rw [et, et']
    have z : (ns.getD j 0 == ms.getD j 0) = decide (ns.getD j 0 = ms.getD j 0) := by
      by_cases w : ns.getD j 0 = ms.getD j 0
      · rw [decide_eq_true w]; exact beq_iff_eq.mpr w
      · rw [decide_eq_false w]; exact beq_eq_false_iff_ne.mpr w
    rw [← z]
    exact SeqAt.EqAt.int_int _ _ _ _) (fun j h1 h2 _ => by
    obtain ⟨t, et⟩ := at1 j h1
    obtain ⟨t', et'⟩ := at2 j h2
    rw [et, et']
    exact Ob.RcOp.gt_int _ _ _ _)
  rw [e1, e2, lexGt_at] at W
  exact W X.prog X.w X.xe (EP X pins σ Q) ⟨.bl _, H, I, rfl, q⟩
abbrev rGtA (K : PySem.W.Frag) : R2 := fun x y H Q => (rI0 fun i j => .bl (decide (j < i))) x y H Q ∨ rGtT K x y H Q
theorem op_gtK {X : Cx} {K : PySem.W.Frag} (h : X.K = K) (hu : X.A.units < cLine) : OpR X (compareOp .Gt) (rGtA K) := by subst h; exact op_gt.or (op_gtT hu)
def gtTD : D → D → Option D
  | .int a, .int b => some (.bool (decide (b < a)))
  | .tuple xs, .tuple ys => (intsD xs).bind fun ns => (intsD ys).bind fun ms => some (.bool (lexGt ns ms))
  | _, _ => none
theorem d_gtT {K : PySem.W.Frag} : OpD K (rGtA K) gtTD := fun B H x y d e z Q s hx hy h q => by
  unfold gtTD at h
  split at h
  · rename_i a b
    cases h
    exact .inl ⟨a, b, dp_int hx, dp_int hy, q _ B H (Grow.refl s) (.bl _)⟩
  · rename_i xs ys
    obtain ⟨ns, e1, e2⟩ := Option.bind_eq_some_iff.mp h
    obtain ⟨ms, e3, e4⟩ := Option.bind_eq_some_iff.mp e2
    cases e4
    obtain ⟨a, vs, rfl, g1, g2⟩ := dp_tuple hx
    obtain ⟨b, us, rfl, g3, g4⟩ := dp_tuple hy
    refine .inr ⟨a, b, ns, ms, rfl, rfl, ?_, ?_, q _ B H (Grow.refl s) (.bl _)⟩
    · rw [← ints_ok g2 e1]; exact SqT.of (s _ _ g1)
    · rw [← ints_ok g4 e3]; exact SqT.of (s _ _ g3)
  · cases h
theorem room_un {A : Around} {k : Nat} (r : Room k A) : A.units < cLine := Nat.lt_of_le_of_lt (Nat.le_add_right _ 64) r.units
end DL
/-! DLp: t[::-1] of a tuple. -/
namespace DL
open PySem PySem.Spec L2 PyProof.Rows HT
section
variable {prog : Program} {w : World} {A : Around} {E : Value → Shared → Prop} {s : Shared}
theorem sliceApplied_rev {sl : Addr} {vs : Value} {n : Nat} {Q : Int × Int × Nat → Shared → Prop} (hs : s.heap.IsSliceOf sl .none .none vs) (ps : IsPart vs (some (-1)))
    (h : Q ((n : Int) - 1, -1, n) s) : wpAny (model prog w) A (Builtin.Slice.sliceApplied (.ref sl) (pure (n : Int))) Q E s := by
  obtain ⟨os, hos, hcs, hds⟩ := id hs
  unfold Builtin.Slice.sliceApplied Builtin.Slice.sliceFields
  refine wpAny_bind (wpAny_bind (wpAny_field hos hds (x := .none) rfl (wpAny_bind (wpAny_field hos hds (x := .none) rfl (wpAny_bind (wpAny_field hos hds (x := vs) rfl (wpAny_pure ?_)))))))
  refine wpAny_bind (slicePart_ ps ?_)
  show wpAny _ _ (if ((-1 : Int) == 0) = true then _ else _) _ _ s
  rw [if_neg (by decide)]
  refine wpAny_bind (slicePart_none (wpAny_bind (slicePart_none (wpAny_bind (wpAny_pure ?_)))))
  have e1 : Builtin.Slice.sliceAdjust none none (-1) (n : Int) = ((n : Int) - 1, -1) := rfl
  have e2 : Builtin.Slice.slicePlaces ((n : Int) - 1) (-1) (-1) = n := by
    unfold Builtin.Slice.slicePlaces
    rw [if_neg (by decide)]
    by_cases hn : n = 0
    · subst hn; rfl
    · rw [if_pos (by omega), show (-(-1) : Int) = 1 from rfl, Int.ediv_one]
      omega
  show wpAny _ _ (match Builtin.Slice.sliceAdjust none none (-1) (n : Int) with | (lo, hi) => pure (lo, (-1 : Int), Builtin.Slice.slicePlaces lo hi (-1))) _ _ s
  rw [e1]
  show wpAny _ _ (pure ((n : Int) - 1, (-1 : Int), Builtin.Slice.slicePlaces ((n : Int) - 1) (-1) (-1))) _ _ s
  rw [e2]
  exact wpAny_pure h
theorem pick_rev (xs : Array Value) : ((List.range xs.size).filterMap fun (m : Nat) => xs[((xs.size : Int) - 1 + (m : Int) * -1).toNat]?).toArray = xs.toList.reverse.toArray := by
  congr 1
  obtain ⟨ys⟩ := xs
  simp only [List.size_toArray]
  have e : ∀ m, m < ys.length → ys.toArray[((ys.length : Int) - 1 + (m : Int) * -1).toNat]? = ys.reverse[m]? := fun m hm => by
    rw [List.getElem?_reverse hm, show ((ys.length : Int) - 1 + (m : Int) * -1).toNat = ys.length - 1 - m by omega]
    simp
  have g : ∀ (k : Nat), k ≤ ys.length → (List.range k).filterMap (fun (m : Nat) => ys.toArray[((ys.length : Int) - 1 + (m : Int) * -1).toNat]?) = ys.reverse.take k := by
    intro k
    induction k with
    | zero => intro _; simp
    | succ k ih =>
      intro hk
      have hl : k < ys.reverse.length := by rw [List.length_reverse]; omega
      rw [List.range_succ, List.filterMap_append, ih (by omega), List.take_add_one]
      congr 1
      simp only [List.filterMap_cons, List.filterMap_nil]
      rw [e k (by omega), List.getElem?_eq_getElem hl]
      rfl
  rw [g ys.length (Nat.le_refl _), List.take_of_length_le (by rw [List.length_reverse]; exact Nat.le_refl _)]
theorem getItem_tuple_rev {t sl : Addr} {items : Array Value} {vs : Value} {Q : Value → Shared → Prop} (ht : IsTup s.heap t items) (hs : s.heap.IsSliceOf sl .none .none vs) (ps : IsPart vs (some (-1)))
    (h : Q (.ref s.heap.objs.size) { s with heap := s.heap.push { cls := .type "tuple", data := .seq items.toList.reverse.toArray } })
    (hsz : items.size ≤ sizeLine) : wpAny (model prog w) A (getItem (.ref t) (.ref sl)) Q E s := by
  have htake : sizeOk (.seq items.toList.reverse.toArray) := by
    show items.toList.reverse.toArray.size ≤ sizeLine
    rw [List.size_toArray, List.length_reverse, Array.length_toList]
    exact hsz
  obtain ⟨os, hos, hcs, hds⟩ := id hs
  have hTs : s.TypeIs (.ref sl) "slice" := ⟨os, hos, hcs⟩
  unfold getItem
  try with_reducible refine wpAny_holding ?_
  first | refine wpAny_bind (wpAny_pure ?_) | skip
  refine wpAny_bind (wpAny_sequenceKey ht.typeIs (by decide) ?_)
  refine wpAny_bind (wpAny_callSpecial?_slot (name := Str.ofString "__getitem__") ht.typeIs PyProof.Rows.slot_tuple_getitem
    (wpAny_call_entry PyProof.Rows.slot_tuple_getitem ht.typeIs entry_tuple_getitem ?_ (args_tuple_getitem _ _)))
  show wpAny _ _ (Builtin.Tuple.tupleItemsOf (.ref t) >>= _) _ _ s
  refine wpAny_bind (tupleItemsOf_ ht ?_)
  refine wpAny_bind (wpAny_typeOf hTs ?_)
  rw [if_pos (by decide)]
  refine wpAny_bind (sliceApplied_rev hs ps ?_)
  have hno : ¬ ((((items.size : Int) - 1) == 0 && (-1 : Int) == 1 && items.size == items.size) = true) := by simp
  show wpAny _ _ (if (((items.size : Int) - 1) == 0 && (-1 : Int) == 1 && items.size == items.size) = true then _ else _) _ _ s
  rw [if_neg hno, pick_rev]
  first
    | exact wpAny_bind (m := Builtin.Tuple.tupleExact _) (wpAny_newObj_type (wpAny_pure ⟨_, rfl, wpAny_pure h⟩) htake)
    | exact wpAny_bind (m := Builtin.Tuple.tupleExact _) (wpAny_newObj_type (wpAny_bind (wpAny_pure (wpAny_pure ⟨_, rfl, wpAny_pure h⟩))) htake)
    | exact wpAny_bind (wpAny_bind (m := Builtin.Tuple.tupleExact _) (wpAny_newObj_type (wpAny_pure (wpAny_pure ⟨_, rfl, wpAny_pure h⟩)) htake))
    | exact wpAny_bind (wpAny_bind (m := Builtin.Tuple.tupleExact _) (wpAny_newObj_type (wpAny_pure ⟨_, rfl, wpAny_pure h⟩) htake))
end
def tRev (K : PySem.W.Frag) (te : TE) : TE := fun σ H Q => te σ H fun x H1 => ∃ a xs, x = .ref a ∧ SqT K H1 a xs ∧ xs.length ≤ sizeLine ∧ ∀ p, H1 p = none → Q (.ref p) (upd H1 p (.tup xs.reverse))
theorem vals_rev : ∀ {xs : List V} {us : List Value}, Vals xs us → Vals xs.reverse us.reverse
  | _, _, .nil => .nil
  | _, _, .cons r t => by
    rw [List.reverse_cons, List.reverse_cons]
    exact Vals.append (vals_rev t) (.cons r .nil)
theorem pe_revK {X : Cx} {K : PySem.W.Frag} {e : Expr} {te : TE} {p1 p2 p3 pos : Pos} {kk : Nat} (hK : X.K = K) (he : PE X e te) : PE X (.Subscript e (.Slice none none (some (.UnaryOp .USub (.Constant (.int 1) kk p1) p2)) p3) pos) (tRev K te) := by
  subst hK
  refine ⟨fun pins s σ H Q I h => ?_⟩
  refine PyProof.Rows.Subscript_ (thn (he.run pins s σ H _ I h) fun v s1 ⟨x, H1, I1, r1, q1⟩ => ?_)
  have hl : PO X none tNoPart := po_none
  have hs : PO X (some (.UnaryOp .USub (.Constant (.int 1) kk p1) p2)) (tPart (tUn (rU fun i => .int (-i)) (tC (.int 1)))) := po_some (pe_un un_neg pe_int)
  obtain ⟨a, xs, rfl, hx, hz, q⟩ := q1
  refine wpAny_Slice (thn (hl.run pins s1 σ H1 (fun o H' => o = none ∧ H' = H1) I1 ⟨rfl, rfl⟩) fun vl s2 ⟨l, H2, I2, pl, el, eH2⟩ => thn (hl.run pins s2 σ H2 (fun o H' => o = none ∧ H' = H2) I2 ⟨rfl, rfl⟩) fun vu s3 ⟨u, H3, I3, pu, eu, eH3⟩ => thn (hs.run pins s3 σ H3 (fun o H' => o = some (-1) ∧ H' = H3) I3 ⟨1, rfl, _, rfl, rfl, rfl⟩) fun vs s4 ⟨o, H4, I4, ps, eo, eH4⟩ => ?_)
  subst el eu eo eH2 eH3 eH4
  cases r1
  cases pl
  cases pu
  have I5 : L2.Inv X pins σ H4 { s4 with heap := s4.heap.push { cls := .type "slice", data := .fields #[.none, .none, vs] } } := I4.kept (t' := s4.toks) fun b ob q => Heap.get?_push_of_some _ q
  obtain ⟨its, r, ht, hz2⟩ := I5.tuple hx
  have hlen := r.length
  show wpAny (model X.prog X.w) X.A (PyProof.Rows.subscriptTail e (.Slice none none (some (.UnaryOp .USub (.Constant (.int 1) kk p1) p2)) p3) (.ref a) (.ref s4.heap.objs.size)) (EP X pins σ Q) X.xe { s4 with heap := s4.heap.push { cls := .type "slice", data := .fields #[.none, .none, vs] } }
  refine PyProof.Rows.tail_any (ops := [.ref a, .ref s4.heap.objs.size]) ht.typeIs (PyProof.Rows.slot_tuple_getitem.lookup) ?_ (by with_unfolding_all rfl)
  refine getItem_tuple_rev ht (Heap.IsSliceOf.new _ .none .none vs) ps ?_ (by rw [List.size_toArray]; omega)
  refine ⟨.ref _, _, I5.laid (t' := s4.toks) (o := .tup xs.reverse) (fun b ob q => Heap.get?_push_of_some _ q) (Nat.le_refl _) ?_, rfl, q _ (I5.hok.fresh (Nat.le_refl _))⟩
  exact ⟨by rw [List.length_reverse]; exact hz, _, vals_rev r, IsTup.new _ _⟩
def sRevA (a : SE) : SE := fun ρ c => (a ρ c).bind fun p => match p.1 with
  | .tuple xs => if few xs.length = true then some (.tuple xs.reverse, p.2) else none
  | _ => none
theorem imp_revA {K : PySem.W.Frag} {te : TE} {a : SE} (ha : ImpE K te a) : ImpE K (tRev K te) (sRevA a) := fun ad B σ H ρ c d c' Q R h q => by
  obtain ⟨⟨x, c1⟩, h1, h⟩ := Option.bind_eq_some_iff.mp h
  cases x with
  | tuple ds =>
    have h' : (if few ds.length = true then some (PyData.tuple ds.reverse, c1) else none) = some (d, c') := h
    split at h'
    · rename_i hf
      cases h'
      refine ha ad B σ H ρ c _ _ _ R h1 fun v B1 H1 f1 d1 => ?_
      obtain ⟨a, vs, rfl, g1, g2⟩ := dp_tuple d1
      refine ⟨a, vs, rfl, SqT.of (f1.bh _ _ g1), by rw [dpAll_len g2]; exact few_line hf, fun p np => ?_⟩
      exact q _ (upd B1 p (.tup vs.reverse)) _ (R.trans f1 ((Grow.new f1.bh np).fw f1.cell)) (dp_newTup (f1.bh.free np) (dpAll_rev g2))
    · cases h'
  | _ => cases h
end DL
/-! DLq: sum, min, max of a tuple of ints. -/
namespace DL
open PySem PySem.Spec L2 PyProof.Rows
section
variable {prog : Program} {w : World} {A : Around} {E : Value → Shared → Prop} {s : Shared} {l : Addr} {xs : Array (Int × Tok)}
theorem iter_intTup {Q : Value → Shared → Prop} (hl : s.heap.IsTuple l (intItems xs))
    (h : ∀ s₂ : Shared, s₂ = { s with heap := s.heap.push { cls := .type "tuple_iterator", data := .fields #[.ref l, .int 0 0] } } →
      (s₂.heap.IsTupleIter s.heap.objs.size l 0 ∧ s₂.heap.IsTuple l (intItems xs)) → (∀ b ∈ [s.heap.objs.size, l], b < s₂.heap.objs.size) → l ≠ s.heap.objs.size → Q (.ref s.heap.objs.size) s₂) :
    wpAny (model prog w) A (pyIter (.ref l)) Q E s := by
  have hlt : l < s.heap.objs.size := by obtain ⟨_, e, _⟩ := hl; exact Heap.lt_size e
  refine wpAny_pyIter_tuple hl (h _ rfl ⟨⟨_, Heap.get?_push_size _ rfl, rfl, rfl⟩, hl.push _⟩ (fun b hb => ?_) (Nat.ne_of_lt hlt))
  show b < (s.heap.push _).objs.size
  rw [Heap.size_push]
  rcases List.mem_cons.mp hb with rfl | hb
  · exact Nat.lt_succ_self _
  · rcases List.mem_cons.mp hb with rfl | hb
    · exact Nat.lt_succ_of_lt hlt
    · cases hb
theorem old_keptT {h' : Heap} (hk : ∀ b o, b ∉ [s.heap.objs.size] → (s.heap.push { cls := .type "tuple_iterator", data := .fields #[.ref l, .int 0 0] }).get? b = some o → h'.get? b = some o) :
    ∀ b o, s.heap.get? b = some o → h'.get? b = some o := fun b o e => by
  refine hk b o (fun hm => ?_) (Heap.get?_push_of_some _ e)
  rcases List.mem_cons.mp hm with e1 | hm
  · exact absurd (e1 ▸ Heap.lt_size e) (Nat.lt_irrefl _)
  · cases hm
theorem max_intTup {Q : Value → Shared → Prop} (hh : A.handled = none) (hl : s.heap.IsTuple l (intItems xs)) (hne : 0 < xs.size)
    (h : ∀ v h' tk, (intItems xs)[argBest (fun i j => decide (numAt xs i > numAt xs j)) (xs.size - 1)]? = some v → (∀ b o, s.heap.get? b = some o → h'.get? b = some o) → Q v { s with heap := h', toks := tk }) :
    wpAny (model prog w) A (call (.builtin "max") [.ref l]) Q E s := by
  refine call_max_walk (iter_intTup hl fun s₂ e st hfp hlI => ?_)
  subst e
  exact ⟨_, _, _, _, _, _, _, rfl, Walks.tuple (A := A.in1) hh _ l hlI (intItems xs), st, hfp, by simpa [intItems] using hne, CmpOf.ints_gt (numAt xs) (fun _ _ => intItems_at), fun v h' tk hP hk => h v h' tk (by simpa [intItems] using hP) (old_keptT hk)⟩
theorem min_intTup {Q : Value → Shared → Prop} (hh : A.handled = none) (hl : s.heap.IsTuple l (intItems xs)) (hne : 0 < xs.size)
    (h : ∀ v h' tk, (intItems xs)[argBest (fun i j => decide (numAt xs i < numAt xs j)) (xs.size - 1)]? = some v → (∀ b o, s.heap.get? b = some o → h'.get? b = some o) → Q v { s with heap := h', toks := tk }) :
    wpAny (model prog w) A (call (.builtin "min") [.ref l]) Q E s := by
  refine call_min_walk (iter_intTup hl fun s₂ e st hfp hlI => ?_)
  subst e
  exact ⟨_, _, _, _, _, _, _, rfl, Walks.tuple (A := A.in1) hh _ l hlI (intItems xs), st, hfp, by simpa [intItems] using hne, CmpOf.ints_lt (numAt xs) (fun _ _ => intItems_at), fun v h' tk hP hk => h v h' tk (by simpa [intItems] using hP) (old_keptT hk)⟩
theorem sum_intTup {Q : Value → Shared → Prop} (hh : A.handled = none) (hl : s.heap.IsTuple l (intItems xs))
    (h : ∀ h' tk t', (∀ b o, s.heap.get? b = some o → h'.get? b = some o) → Q (.int (preSum (numAt xs) xs.size) t') { s with heap := h', toks := tk }) :
    wpAny (model prog w) A (call (.builtin "sum") [.ref l]) Q E s := by
  refine call_sum_walkG (iter_intTup hl fun s₂ e st hfp hlI => ?_)
  subst e
  refine ⟨_, _, _, _, _, _, numAt xs, rfl, Walks.tuple (A := A.in1) hh _ l hlI (intItems xs), st, hfp, (fun _ _ => intItems_at), fun h' tk t' hk => ?_⟩
  have := h h' tk t' (old_keptT hk)
  simpa [intItems] using this
variable {its : List Value} {ns : List Int} {Q : Value → Shared → Prop}
theorem sum_rawT (hh : A.handled = none) (hl : s.heap.IsTuple l its.toArray) (hi : IntsAre its ns)
    (h : ∀ h' tk t', (∀ b o, s.heap.get? b = some o → h'.get? b = some o) → Q (.int ns.sum t') { s with heap := h', toks := tk }) : wpAny (model prog w) A (call (.builtin "sum") [.ref l]) Q E s := by
  obtain ⟨xs, e⟩ := hi.allInts.items
  have hn : numsOf (intItems xs).toList = ns := by rw [← e]; exact hi.numsOf
  rw [nums_intItems] at hn
  rw [e] at hl
  refine sum_intTup hh hl fun h' tk t' hk => ?_
  have := h h' tk t' hk
  rw [preSum_eq, List.take_of_length_le (by simp), hn]; exact this
theorem max_rawT (hh : A.handled = none) (hl : s.heap.IsTuple l its.toArray) (hi : IntsAre its ns) (hne : 0 < ns.length)
    (h : ∀ h' tk M t', (∀ b o, s.heap.get? b = some o → h'.get? b = some o) → M ∈ ns → (∀ a, a ∈ ns → a ≤ M) → Q (.int M t') { s with heap := h', toks := tk }) : wpAny (model prog w) A (call (.builtin "max") [.ref l]) Q E s := by
  obtain ⟨xs, e⟩ := hi.allInts.items
  have hn : numsOf (intItems xs).toList = ns := by rw [← e]; exact hi.numsOf
  rw [nums_intItems] at hn
  subst hn
  rw [e] at hl
  have hsz : 0 < xs.size := by simpa using hne
  refine max_intTup hh hl hsz fun v h' tk hv hk => ?_
  obtain ⟨t, rfl⟩ := intItems_at hv
  obtain ⟨h1, h2⟩ := argBest_gt (numAt xs) (xs.size - 1)
  refine h h' tk _ t hk ?_ fun a ha => ?_
  · rw [numAt_eq]; exact PySem.getD_mem (by rw [List.length_map, Array.length_toList]; omega)
  · obtain ⟨j, hj, rfl⟩ := mem_getD ha
    rw [List.length_map, Array.length_toList] at hj
    rw [← numAt_eq]; exact h2 j (by omega)
theorem min_rawT (hh : A.handled = none) (hl : s.heap.IsTuple l its.toArray) (hi : IntsAre its ns) (hne : 0 < ns.length)
    (h : ∀ h' tk M t', (∀ b o, s.heap.get? b = some o → h'.get? b = some o) → M ∈ ns → (∀ a, a ∈ ns → M ≤ a) → Q (.int M t') { s with heap := h', toks := tk }) : wpAny (model prog w) A (call (.builtin "min") [.ref l]) Q E s := by
  obtain ⟨xs, e⟩ := hi.allInts.items
  have hn : numsOf (intItems xs).toList = ns := by rw [← e]; exact hi.numsOf
  rw [nums_intItems] at hn
  subst hn
  rw [e] at hl
  have hsz : 0 < xs.size := by simpa using hne
  refine min_intTup hh hl hsz fun v h' tk hv hk => ?_
  obtain ⟨t, rfl⟩ := intItems_at hv
  obtain ⟨h1, h2⟩ := argBest_lt (numAt xs) (xs.size - 1)
  refine h h' tk _ t hk ?_ fun a ha => ?_
  · rw [numAt_eq]; exact PySem.getD_mem (by rw [List.length_map, Array.length_toList]; omega)
  · obtain ⟨j, hj, rfl⟩ := mem_getD ha
    rw [List.length_map, Array.length_toList] at hj
    rw [← numAt_eq]; exact h2 j (by omega)
end
section
variable {K : PySem.W.Frag} {X : Cx}
abbrev SqA (K : PySem.W.Frag) (H : Hp) (a : Addr) (xs : List V) : Prop := SqL K H a xs ∨ SqT K H a xs
def rSumA (K : PySem.W.Frag) : List V → Hp → VK → Prop := fun vs H Q => ∃ (a : Addr) (ns : List Int), vs = [V.ref a] ∧ SqA K H a (ns.map V.int) ∧ Q (.int ns.sum) H
theorem cr_sumA (h : X.K = K) (hc : X.calm = true) : CallR X (.builtin "sum") (rSumA K) := by
  subst h
  intro pins s σ H vs us Q I r h
  obtain ⟨a, ns, rfl, hs | hs, q⟩ := h
  · obtain ⟨its, rv, hl, _⟩ := I.list hs
    rw [Vals.ref1 r]
    exact sum_raw (I.ok.hd hc) hl.isList rv.ints fun h' tk t' hk => ⟨.int _, H, I.kept hk, ⟨_, rfl⟩, q⟩
  · obtain ⟨its, rv, hl, _⟩ := I.tuple hs
    rw [Vals.ref1 r]
    exact sum_rawT (I.ok.hd hc) hl rv.ints fun h' tk t' hk => ⟨.int _, H, I.kept hk, ⟨_, rfl⟩, q⟩
def rMaxS (K : PySem.W.Frag) : List V → Hp → VK → Prop := fun vs H Q => (∃ (a : Addr) (ns : List Int), vs = [V.ref a] ∧ SqA K H a (ns.map V.int) ∧ 0 < ns.length ∧ ∀ m, m ∈ ns → (∀ y, y ∈ ns → y ≤ m) → Q (.int m) H) ∨ (∃ i j, vs = [.int i, .int j] ∧ Q (.int (if j > i then j else i)) H)
def rMinS (K : PySem.W.Frag) : List V → Hp → VK → Prop := fun vs H Q => (∃ (a : Addr) (ns : List Int), vs = [V.ref a] ∧ SqA K H a (ns.map V.int) ∧ 0 < ns.length ∧ ∀ m, m ∈ ns → (∀ y, y ∈ ns → m ≤ y) → Q (.int m) H) ∨ (∃ i j, vs = [.int i, .int j] ∧ Q (.int (if j < i then j else i)) H)
theorem cr_maxS (h : X.K = K) (hc : X.calm = true) : CallR X (.builtin "max") (rMaxS K) := by
  subst h
  intro pins s σ H vs us Q I r h
  rcases h with ⟨a, ns, rfl, hs | hs, hne, q⟩ | h
  · obtain ⟨its, rv, hl, _⟩ := I.list hs
    rw [Vals.ref1 r]
    exact max_raw (I.ok.hd hc) hl.isList rv.ints hne fun h' tk m t' hk h1 h2 => ⟨.int _, H, I.kept hk, ⟨_, rfl⟩, q m h1 h2⟩
  · obtain ⟨its, rv, hl, _⟩ := I.tuple hs
    rw [Vals.ref1 r]
    exact max_rawT (I.ok.hd hc) hl rv.ints hne fun h' tk m t' hk h1 h2 => ⟨.int _, H, I.kept hk, ⟨_, rfl⟩, q m h1 h2⟩
  · exact call_max2 hc pins s σ H vs us Q I r h
theorem cr_minS (h : X.K = K) (hc : X.calm = true) : CallR X (.builtin "min") (rMinS K) := by
  subst h
  intro pins s σ H vs us Q I r h
  rcases h with ⟨a, ns, rfl, hs | hs, hne, q⟩ | h
  · obtain ⟨its, rv, hl, _⟩ := I.list hs
    rw [Vals.ref1 r]
    exact min_raw (I.ok.hd hc) hl.isList rv.ints hne fun h' tk m t' hk h1 h2 => ⟨.int _, H, I.kept hk, ⟨_, rfl⟩, q m h1 h2⟩
  · obtain ⟨its, rv, hl, _⟩ := I.tuple hs
    rw [Vals.ref1 r]
    exact min_rawT (I.ok.hd hc) hl rv.ints hne fun h' tk m t' hk h1 h2 => ⟨.int _, H, I.kept hk, ⟨_, rfl⟩, q m h1 h2⟩
  · exact call_min2 hc pins s σ H vs us Q I r h
/-- the ints of a list or tuple -/
def seqI : D → Option (List Int)
  | .list xs => intsD xs
  | .tuple xs => intsD xs
  | _ => none
theorem seqI_ok {B H : Hp} {x : V} {d : D} {ns : List Int} (s : Same B H) (h : Dp K B x d) (e : seqI d = some ns) : ∃ a, x = .ref a ∧ SqA K H a (ns.map V.int) := by
  cases d with
  | list xs =>
    obtain ⟨a, vs, rfl, g1, g2⟩ := dp_list h
    exact ⟨a, rfl, .inl (by rw [← ints_ok g2 e]; exact SqL.of (s _ _ g1))⟩
  | tuple xs =>
    obtain ⟨a, vs, rfl, g1, g2⟩ := dp_tuple h
    exact ⟨a, rfl, .inr (by rw [← ints_ok g2 e]; exact SqT.of (s _ _ g1))⟩
  | _ => cases e
def sumA : List D → Option D
  | [d] => (seqI d).map fun ns => .int ns.sum
  | _ => none
theorem d_sumA : CallD K (rSumA K) sumA := fun B H xs ds z Q s hx h q => by
  unfold sumA at h
  split at h
  · obtain ⟨ns, e1, e2⟩ := Option.map_eq_some_iff.mp h
    subst e2
    obtain ⟨x, rfl, h1⟩ := dpAll_1 hx
    obtain ⟨a, rfl, g⟩ := seqI_ok s h1 e1
    exact ⟨a, ns, rfl, g, q _ B H (Grow.refl s) (.int _)⟩
  · cases h
def maxS : List D → Option D
  | [.int i, .int j] => some (.int (max i j))
  | [d] => (seqI d).bind fun ns => if ns = [] then none else some (.int (maxL ns))
  | _ => none
def minS : List D → Option D
  | [.int i, .int j] => some (.int (min i j))
  | [d] => (seqI d).bind fun ns => if ns = [] then none else some (.int (minL ns))
  | _ => none
theorem d_maxS : CallD K (rMaxS K) maxS := fun B H xs ds z Q s hx h q => by
  unfold maxS at h
  split at h
  · cases h
    obtain ⟨x, y, rfl, h1, h2⟩ := dpAll_2 hx
    rw [dp_int h1, dp_int h2]
    refine .inr ⟨_, _, rfl, ?_⟩
    have e : ∀ i j : Int, (if j > i then j else i) = max i j := fun i j => by split <;> omega
    rw [e]
    exact q _ B H (Grow.refl s) (.int _)
  · obtain ⟨ns, e1, e2⟩ := Option.bind_eq_some_iff.mp h
    split at e2
    · cases e2
    · rename_i hne
      cases e2
      obtain ⟨x, rfl, h1⟩ := dpAll_1 hx
      obtain ⟨a, rfl, g⟩ := seqI_ok s h1 e1
      obtain ⟨m1, m2⟩ := maxL_spec hne
      refine .inl ⟨a, ns, rfl, g, List.length_pos_iff.mpr hne, fun m k1 k2 => ?_⟩
      have : m = maxL ns := Int.le_antisymm (m2 m k1) (k2 _ m1)
      rw [this]
      exact q _ B H (Grow.refl s) (.int _)
  · cases h
theorem d_minS : CallD K (rMinS K) minS := fun B H xs ds z Q s hx h q => by
  unfold minS at h
  split at h
  · cases h
    obtain ⟨x, y, rfl, h1, h2⟩ := dpAll_2 hx
    rw [dp_int h1, dp_int h2]
    refine .inr ⟨_, _, rfl, ?_⟩
    have e : ∀ i j : Int, (if j < i then j else i) = min i j := fun i j => by split <;> omega
    rw [e]
    exact q _ B H (Grow.refl s) (.int _)
  · obtain ⟨ns, e1, e2⟩ := Option.bind_eq_some_iff.mp h
    split at e2
    · cases e2
    · rename_i hne
      cases e2
      obtain ⟨x, rfl, h1⟩ := dpAll_1 hx
      obtain ⟨a, rfl, g⟩ := seqI_ok s h1 e1
      obtain ⟨m1, m2⟩ := minL_spec hne
      refine .inl ⟨a, ns, rfl, g, List.length_pos_iff.mpr hne, fun m k1 k2 => ?_⟩
      have : m = minL ns := Int.le_antisymm (k2 _ m1) (m2 m k1)
      rw [this]
      exact q _ B H (Grow.refl s) (.int _)
  · cases h
end
end DL
/-! DLr: sorted(set(t)) of a tuple of ints. -/
namespace DL
open PySem PySem.Spec L2 PyProof.Rows
def tSortSet (K : PySem.W.Frag) (ta : TE) : TE := fun σ H Q => ta σ H fun x H1 => ∃ (l : Addr) (ns : List Int), x = .ref l ∧ SqT K H1 l (ns.map V.int) ∧ ns.length < 64 ∧
  ∀ (out : List Int) (p : Addr), out.Pairwise (· < ·) → (∀ k : Int, k ∈ out ↔ k ∈ ns) → H1 p = none → Q (.ref p) (upd H1 p (.lst (out.map V.int)))
theorem pe_sortSet {X : Cx} {K : PySem.W.Frag} {a : Expr} {ta : TE} {p p2 q pos : Pos} (hK : X.K = K) (hc : X.calm = true) (hg : Gl X "sorted") (hm : X.mg "sorted" = none) (hg2 : Gl X "set") (hm2 : X.mg "set" = none) (ha : PE X a ta)
    (hb : bootBuiltins "sorted" = some (.builtin "sorted")) (na : starEach [a] X.env = (false, eval a X.env) :: starEach [] X.env := by rfl) : PE X (.Call (.Name "sorted" p) [.Call (.Name "set" p2) [a] [] q] [] pos) (tSortSet K ta) := by
  subst hK
  refine ⟨fun pins s σ H Q I h => ?_⟩
  refine Call_ (ld_blt I hg hm hb ?_)
  refine PyProof.Rows.callWith_builtin1 (PyProof.Rows.args_cons ?_ rfl) rfl rfl
  refine Call_ (ld_blt I hg2 hm2 boot_set ?_)
  refine PyProof.Rows.callWith_type1 (PyProof.Rows.args_cons (thn (ha.run pins s σ H _ I h) fun v s1 ⟨x, H1, I1, r1, q1⟩ => PyProof.Rows.args_nil ?_) na) na rfl
  obtain ⟨l, ns, rfl, hq, h64, q1⟩ := q1
  cases r1
  obtain ⟨its, rv, pt, hz⟩ := I1.tuple hq
  have hi : IntsAre its.toArray.toList ns := ints_of_vals rv
  have hd := I1.ok.hd hc
  refine call_set_tupI ns hd (show s1.heap.IsTuple l its.toArray from pt) hi (by unfold scanBound; omega) fun h' tk c R1 hcn k => ?_
  refine PyProof.Rows.args_nil ?_
  refine sorted_set (s := { s1 with heap := h', toks := tk }) R1 hd (by omega) fun s' p' out c' ns' k' g o hp hg' hi' hs hm' hl => ?_
  have hlen : (ns'.map V.int).length ≤ sizeLine := by rw [List.length_map, hl, sizeLine_eq]; omega
  have hlt : s1.heap.objs.size < h'.objs.size := R1.lt
  have hp1 : s1.heap.objs.size ≤ p' := Nat.le_trans (Nat.le_of_lt hlt) hp
  have kall : ∀ b u, s1.heap.get? b = some u → s'.heap.get? b = some u := fun b u e => k' b u (k b u e)
  have hn : H1 p' = none := I1.hok.fresh hp1
  have J : L2.Inv X pins σ (upd H1 p' (.lst (ns'.map V.int))) { s1 with heap := s'.heap, gens := s'.gens, drawn := s'.drawn, toks := s'.toks } :=
    I1.call (ch := []) (Un.laid kall hp1 hn) (I1.hok.laid kall hp1 ⟨hlen, out.toList, c', vals_of_ints hi', hg'⟩) (by rw [g]; exact I1.bare) (fun _ z => nomatch z)
  have e : s' = { s1 with heap := s'.heap, gens := s'.gens, drawn := s'.drawn, toks := s'.toks } := by
    cases s'
    cases s1
    cases o
    rfl
  rw [e]
  exact ⟨.ref p', _, J, rfl, q1 ns' p' hs (fun k => by rw [hm' k, decide_eq_true_eq]) hn⟩
/-- each once, from the least on -/
def insU (x : Int) : List Int → List Int
  | [] => [x]
  | y :: ys => if x < y then x :: y :: ys else if x = y then y :: ys else y :: insU x ys
def sortU : List Int → List Int
  | [] => []
  | x :: xs => insU x (sortU xs)
theorem mem_insU {x k : Int} : ∀ {ys : List Int}, k ∈ insU x ys ↔ k = x ∨ k ∈ ys
  | [] => by simp [insU]
  | y :: ys => by
    unfold insU
    split
    · simp
    · split
      · rename_i h; subst h; simp
      · rw [List.mem_cons, mem_insU (ys := ys), List.mem_cons]
        constructor
        · rintro (h | h | h)
          · exact .inr (.inl h)
          · exact .inl h
          · exact .inr (.inr h)
        · rintro (h | h | h)
          · exact .inr (.inl h)
          · exact .inl h
          · exact .inr (.inr h)
theorem mem_sortU {k : Int} : ∀ {xs : List Int}, k ∈ sortU xs ↔ k ∈ xs
  | [] => by simp [sortU]
  | x :: xs => by
    show k ∈ insU x (sortU xs) ↔ _
    rw [mem_insU, mem_sortU, List.mem_cons]
theorem insU_lt {x : Int} : ∀ {ys : List Int}, ys.Pairwise (· < ·) → (insU x ys).Pairwise (· < ·)
  | [], _ => by simp [insU]
  | y :: ys, h => by
    obtain ⟨h1, h2⟩ := List.pairwise_cons.mp h
    unfold insU
    split
    · rename_i hx
      refine List.pairwise_cons.mpr ⟨fun z hz => ?_, h⟩
      rcases List.mem_cons.mp hz with w | w
      · rw [w]; exact hx
      · exact Int.lt_trans hx (h1 z w)
    · split
      · exact h
      · rename_i n1 n2
        refine List.pairwise_cons.mpr ⟨fun z hz => ?_, insU_lt h2⟩
        rcases mem_insU.mp hz with w | w
        · omega
        · exact h1 z w
theorem sortU_lt : ∀ xs : List Int, (sortU xs).Pairwise (· < ·)
  | [] => List.Pairwise.nil
  | x :: xs => insU_lt (sortU_lt xs)
theorem lt_unique : ∀ {xs ys : List Int}, xs.Pairwise (· < ·) → ys.Pairwise (· < ·) → (∀ k, k ∈ xs ↔ k ∈ ys) → xs = ys
  | [], [], _, _, _ => rfl
  | [], y :: ys, _, _, h => absurd ((h y).mpr List.mem_cons_self) (by simp)
  | x :: xs, [], _, _, h => absurd ((h x).mp List.mem_cons_self) (by simp)
  | x :: xs, y :: ys, h1, h2, h => by
    obtain ⟨a1, a2⟩ := List.pairwise_cons.mp h1
    obtain ⟨b1, b2⟩ := List.pairwise_cons.mp h2
    have e : x = y := by
      rcases List.mem_cons.mp ((h x).mp List.mem_cons_self) with w | w
      · exact w
      · rcases List.mem_cons.mp ((h y).mpr List.mem_cons_self) with v | v
        · exact v.symm
        · have := b1 x w
          have := a1 y v
          omega
    subst e
    rw [lt_unique a2 b2 fun k => ?_]
    constructor
    · intro hk
      rcases List.mem_cons.mp ((h k).mp (List.mem_cons_of_mem _ hk)) with w | w
      · subst w; exact absurd (a1 k hk) (by omega)
      · exact w
    · intro hk
      rcases List.mem_cons.mp ((h k).mpr (List.mem_cons_of_mem _ hk)) with w | w
      · subst w; exact absurd (b1 k hk) (by omega)
      · exact w
theorem dpAll_ints {K : PySem.W.Frag} {B : Hp} : ∀ ns : List Int, DpAll K B (ns.map V.int) (ns.map PyData.int)
  | [] => .nil
  | n :: ns => .cons (.int n) (dpAll_ints ns)
def sSortSet (a : SE) : SL := fun ρ c => (a ρ c).bind fun p => match p.1 with
  | .tuple xs => (intsD xs).bind fun ns => if ns.length < 64 then some ((sortU ns).map PyData.int, p.2) else none
  | _ => none
theorem imp_sortSet {K : PySem.W.Frag} {te : TE} {a : SE} (ha : ImpE K te a) : ImpL K (tSortSet K te) (sSortSet a) := fun ad B σ H ρ c ds c' Q R h q => by
  obtain ⟨⟨x, c1⟩, h1, h⟩ := Option.bind_eq_some_iff.mp h
  cases x with
  | tuple xs =>
    obtain ⟨ns, e1, e2⟩ := Option.bind_eq_some_iff.mp (show ((intsD xs).bind fun ns => if ns.length < 64 then some ((sortU ns).map PyData.int, c1) else none) = some (ds, c') from h)
    split at e2
    · rename_i hl
      cases e2
      refine ha ad B σ H ρ c _ _ _ R h1 fun v B1 H1 f1 d1 => ?_
      obtain ⟨l, vs, rfl, g1, g2⟩ := dp_tuple d1
      refine ⟨l, ns, rfl, ?_, hl, fun out p s1 s2 np => ?_⟩
      · rw [← ints_ok g2 e1]; exact SqT.of (f1.bh _ _ g1)
      · have e : out = sortU ns := lt_unique s1 (sortU_lt ns) fun k => by rw [s2 k, mem_sortU]
        rw [e]
        exact q p _ B1 _ H1 f1 np rfl (dpAll_ints _)
    · cases e2
  | _ => cases h
theorem pg_tupK {X : Cx} {K : PySem.W.Frag} {es : List Expr} {k : Nat} {t : TGs} {n : Nat} {pos : Pos} (hK : X.K = K) (hc : X.calm = true) (h : PGs X es t)
    (hn : (assignEach es X.env).length = n := by rfl) (hst : (assignEach es X.env).findIdx? (·.1) = none := by rfl) : PG X (.Tuple es k pos) (gTup K n t) := by
  subst hK; exact pg_tup hc h hn hst
theorem pi_listK {X : Cx} {K : PySem.W.Frag} {tg l : Expr} {tl : TE} (hK : X.K = K) (hl : PE X l tl) : PI X tg l (iList K tl) := by subst hK; exact pi_list hl
theorem pi_tupleK {X : Cx} {K : PySem.W.Frag} {tg l : Expr} {tl : TE} (hK : X.K = K) (hl : PE X l tl) : PI X tg l (iTup K tl) := by subst hK; exact pi_tup hl
end DL
/-! DLs: comprehensions with two fors; pop; dicts asked for their least key; remainders by any sign. -/
namespace DL
open PySem PySem.Spec L2
section
variable {K : PySem.W.Frag}
/-- a list that no slot owns is changed -/
theorem Rl.poke {ad : Option Addr} {B H : Hp} {σ : L2.St} {ρ : Rho} {c : Dr} (r : Rl K ad B σ H ρ c) {a : Addr} {acc acc' : List V} (no : ¬ Owned ρ σ a) (ha : H a = some (.lst acc)) (nb : B a = none) (na : ad ≠ some a) :
    Rl K ad B σ (upd H a (.lst acc')) ρ c := by
  have other : ∀ (j : Nat) (t : Sl) (b : Addr), ρ[j]? = some t → σ[j]? = some (some (.ref b)) → owns t = true → b ≠ a := fun j t b e1 e2 e3 z => by
    subst z; exact no ⟨j, t, e1, e3, e2⟩
  refine ⟨fun b o q => ?_, fun b q => ?_, r.cfree, r.len, fun j t e1 => ?_, r.sep⟩
  · rw [upd_ne (fun z => by subst z; rw [nb] at q; cases q)]; exact r.sub b o q
  · rw [upd_ne (fun z => by subst z; exact na q)]; exact r.cell b q
  · have q := r.slot j t e1
    cases t with
    | un => trivial
    | im d => exact q
    | ol xs =>
      obtain ⟨b, us, g1, g2, g3, g4, g5⟩ := q
      exact ⟨b, us, g1, by rw [upd_ne (other j _ b e1 g1 rfl)]; exact g2, g3, g4, g5⟩
    | od xs =>
      obtain ⟨b, us, g1, g2, g3, g4, g5⟩ := q
      exact ⟨b, us, g1, by rw [upd_ne (other j _ b e1 g1 rfl)]; exact g2, g3, g4, g5⟩
    | fd xs =>
      obtain ⟨b, w, us, g1, g2, g3, g4, g5⟩ := q
      refine ⟨b, w, us, g1, ?_, g3, g4, g5⟩
      rw [upd_ne (fun z => by subst z; rw [ha] at g2; cases g2)]
      exact g2
    | op v => exact q
    | dr => exact q
theorem delH_upd' {H : Hp} {a : Addr} {o : HO} : delH (upd H a o) a = delH H a := by
  funext b
  by_cases z : b = a
  · subst z; rw [delH_self, delH_self]
  · rw [delH_ne z, delH_ne z, upd_ne z]
theorem Fw.nB {ad : Option Addr} {c' : Dr} {B H B' H' : Hp} {a : Addr} {o : HO} (x : Fw ad c' B H B' H') (n : B a = none) (h : H a = some o) : B' a = none := by
  cases z : B' a with
  | none => rfl
  | some u =>
    have := x.fresh a u z n
    rw [h] at this; cases this
/-! ### two fors -/
def lcS2 (g : D → Rho → Option Rho) (t : SB) (f1 : SI) (g1 : D → Rho → Option Rho) (t1 : SB) (e : SE) (ρ0 : Rho) (vs1 : List Nat) : List D → Dr → Option (List D × Dr)
  | [], c => some ([], c)
  | x :: xs, c => (g x ρ0).bind fun ρ1 => (t ρ1 c).bind fun p => if p.1 = true then (f1 ρ1 p.2).bind fun q => (lcS g1 t1 e (wipeR ρ1 vs1) q.1 q.2).bind fun r => (lcS2 g t f1 g1 t1 e ρ0 vs1 xs r.2).bind fun u => some (r.1 ++ u.1, u.2) else lcS2 g t f1 g1 t1 e ρ0 vs1 xs p.2
def sLc2 (f : SI) (g : D → Rho → Option Rho) (t : SB) (f1 : SI) (g1 : D → Rho → Option Rho) (t1 : SB) (e : SE) (vs vs1 : List Nat) : SL := fun ρ c => (f ρ c).bind fun p => (lcS2 g t f1 g1 t1 e (wipeR ρ vs) vs1 p.1 p.2).bind fun q => if few q.1.length = true then some q else none
theorem wipe_idem {σ : L2.St} {vs : List Nat} : wipe (wipe σ vs) vs = wipe σ vs := by
  have one : ∀ (u : Nat) (ws : List Nat), u ∈ ws → (wipe σ ws).set u none = wipe σ ws := by
    intro u ws
    induction ws with
    | nil => intro h; cases h
    | cons w ws ih =>
      intro h
      show ((wipe σ ws).set w none).set u none = (wipe σ ws).set w none
      by_cases e : u = w
      · subst e; rw [List.set_set]
      · have hm : u ∈ ws := by
          rcases List.mem_cons.mp h with z | z
          · exact absurd z e
          · exact z
        rw [List.set_comm _ _ (Ne.symm e), ih hm]
  have key : ∀ us : List Nat, (∀ u ∈ us, u ∈ vs) → wipe (wipe σ vs) us = wipe σ vs := by
    intro us
    induction us with
    | nil => intro _; rfl
    | cons u us ih =>
      intro hs
      show (wipe (wipe σ vs) us).set u none = wipe σ vs
      rw [ih fun w hw => hs w (List.mem_cons_of_mem _ hw)]
      exact one u vs (hs u List.mem_cons_self)
  exact key vs fun u h => h
theorem imp_lc2 {wi wi1 : TI} {tg tg1 : TG} {tt tt1 : TT} {te : TE} {f f1 : SI} {g g1 : D → Rho → Option Rho} {t t1 : SB} {e : SE} {vs vs1 : List Nat} (hf : ImpI K wi f) (hg : ImpG K tg g) (ho : OnlyG tg vs) (mn : MonoG tg) (ht : ImpT K tt t)
    (hf1 : ImpI K wi1 f1) (hg1 : ImpG K tg1 g1) (ho1 : OnlyG tg1 vs1) (mn1 : MonoG tg1) (ht1 : ImpT K tt1 t1) (he : ImpE K te e) :
    ImpL K (tLc2 wi tg tt wi1 tg1 tt1 te vs vs1) (sLc2 f g t f1 g1 t1 e vs vs1) := fun ad B σ H ρ c ds c' Q R h q => by
  obtain ⟨⟨xs, c1⟩, e1, e2⟩ := Option.bind_eq_some_iff.mp h
  obtain ⟨⟨ds', c2⟩, e3, e4⟩ := Option.bind_eq_some_iff.mp e2
  have e4 : (if few ds'.length = true then some (ds', c2) else none) = some (ds, c') := e4
  by_cases hz : few ds'.length = true
  · rw [if_pos hz] at e4
    cases e4
    have hz' := few_ok hz
    have e3 : lcS2 g t f1 g1 t1 e (wipeR ρ vs) vs1 xs c1 = some (ds, c') := e3
    refine hf ad B σ H ρ c xs c1 _ R e1 fun J B1 H1 x wk => ?_
    intro Dl hD
    have R1 := R.fw x
    have nB1 : B1 Dl = none := R1.sub.free hD
    have nad : ad ≠ some Dl := fun z => by rw [R1.cell Dl z] at hD; cases hD
    refine ⟨fun i m H' => m = xs.length - i ∧ i ≤ xs.length ∧ ∃ (B' : Hp) (cc : Dr) (acc : List V) (done rest : List D), H' Dl = some (.lst acc) ∧ DpAll K B' acc done ∧ Fw ad cc B1 H1 B' (delH H' Dl) ∧ lcS2 g t f1 g1 t1 e (wipeR ρ vs) vs1 (xs.drop i) cc = some (rest, c') ∧ ds = done ++ rest,
      ⟨xs.length, by rw [Nat.sub_zero], Nat.zero_le _, B1, c1, [], [], ds, upd_same, .nil, by rw [delH_upd hD]; exact R1.fwRefl, by rw [List.drop_zero]; exact e3, rfl⟩, fun i m H' hW => ?_⟩
    obtain ⟨rfl, hi, B', cc, acc, done, rest, hDl, dacc, y, e', ed⟩ := hW
    have nB' : B' Dl = none := by
      cases z : B' Dl with
      | none => rfl
      | some u =>
        have := y.bh Dl u z
        rw [delH_self] at this; cases this
    have sB' : Same B' H' := y.bh.trans same_delH
    obtain ⟨w1, w2⟩ := wk B' H' y.bb sB'
    by_cases hlt : i < xs.length
    · obtain ⟨go, yl⟩ := w2 i _ (List.getElem?_eq_getElem hlt)
      rw [List.drop_eq_getElem_cons hlt] at e'
      obtain ⟨ρ2, e5, e6⟩ := Option.bind_eq_some_iff.mp e'
      obtain ⟨⟨b, c3⟩, e7, e8⟩ := Option.bind_eq_some_iff.mp e6
      refine .inr ⟨go, fun H2 => xs.length - (i + 1) = xs.length - (i + 1) ∧ i + 1 ≤ xs.length ∧ ∃ (B' : Hp) (cc : Dr) (acc : List V) (done rest : List D), H2 Dl = some (.lst acc) ∧ DpAll K B' acc done ∧ Fw ad cc B1 H1 B' (delH H2 Dl) ∧ lcS2 g t f1 g1 t1 e (wipeR ρ vs) vs1 (xs.drop (i + 1)) cc = some (rest, c') ∧ ds = done ++ rest, fun H2 h2 => ⟨xs.length - (i + 1), by omega, h2⟩, fun v H3 hv => ?_⟩
      obtain ⟨B3, gr, dv⟩ := yl v H3 hv
      have hDl3 : H3 Dl = some (.lst acc) := gr.hh Dl _ hDl
      have cell' : ∀ a, ad = some a → H' a = some (.lst [.int cc.1, .int cc.2]) := fun a z => same_delH a _ (y.cell a z)
      have x3 : Fw ad cc B' H' B3 H3 := gr.fw cell'
      have R0 : Rl K ad B' (wipe σ vs) (delH H' Dl) (wipeR ρ vs) cc := (R1.fw y).wiped vs
      have R' : Rl K ad B' (wipe σ vs) H' (wipeR ρ vs) cc := R0.up same_delH
      have R3 := R'.fw x3
      have nB3 : B3 Dl = none := x3.nB nB' hDl
      have y3 : Fw ad cc B1 H1 B3 (delH H3 Dl) := R1.trans y (x3.del nB' hDl nad)
      have no0 : ¬ Owned (wipeR ρ vs) (wipe σ vs) Dl := fun z => by
        obtain ⟨_, _, o, q⟩ := R0.ownB z
        rw [delH_self] at q; cases q
      have on := ho v (wipe σ vs) H3 _ (hg ad B3 (wipe σ vs) H3 (wipeR ρ vs) cc v _ ρ2 (fun σ4 H4 => H4 = H3 ∧ Rl K ad B3 σ4 H3 ρ2 cc ∧ ¬ Owned ρ2 σ4 Dl) R3 dv e5 fun σ4 R4 y4 => ⟨rfl, R4, fun z => by
        rcases y4.own Dl z with w | w
        · exact no0 w
        · rw [hDl3] at w; cases w⟩)
      refine mn _ _ _ _ _ (fun σ4 H4 h4 => ?_) on
      obtain ⟨⟨rfl, R4, no4⟩, ew⟩ := h4
      refine ⟨ew.trans wipe_idem, ?_⟩
      refine ht ad B3 σ4 H4 ρ2 cc b c3 _ R4 e7 fun B5 H5 x5 => ?_
      have R5 := R4.fw x5
      have hDl5 : H5 Dl = some (.lst acc) := x5.keep Dl _ nad hDl3
      have nB5 : B5 Dl = none := x5.nB nB3 hDl3
      have y5 : Fw ad c3 B1 H1 B5 (delH H5 Dl) := R1.trans y3 (x5.del nB3 hDl3 nad)
      have d5 : DpAll K B5 acc done := dpAll_mono (gr.bb.trans x5.bb) _ _ dacc
      cases b with
      | false =>
        rw [if_neg Bool.false_ne_true]
        have e8' : lcS2 g t f1 g1 t1 e (wipeR ρ vs) vs1 (xs.drop (i + 1)) c3 = some (rest, c') := e8
        exact ⟨rfl, hlt, B5, c3, acc, done, rest, hDl5, d5, y5, e8', ed⟩
      | true =>
        rw [if_pos rfl]
        have e8' : ((f1 ρ2 c3).bind fun q => (lcS g1 t1 e (wipeR ρ2 vs1) q.1 q.2).bind fun r => (lcS2 g t f1 g1 t1 e (wipeR ρ vs) vs1 (xs.drop (i + 1)) r.2).bind fun u => some (r.1 ++ u.1, u.2)) = some (rest, c') := e8
        obtain ⟨⟨ys, c6⟩, e9, e10⟩ := Option.bind_eq_some_iff.mp e8'
        obtain ⟨⟨r1, c7⟩, e11, e12⟩ := Option.bind_eq_some_iff.mp e10
        obtain ⟨⟨r2, c8⟩, e13, e14⟩ := Option.bind_eq_some_iff.mp e12
        cases e14
        have e11 : lcS g1 t1 e (wipeR ρ2 vs1) ys c6 = some (r1, c7) := e11
        have e13 : lcS2 g t f1 g1 t1 e (wipeR ρ vs) vs1 (xs.drop (i + 1)) c7 = some (r2, c8) := e13
        refine hf1 ad B5 σ4 H5 ρ2 c3 ys c6 _ R5 e9 fun J1 B6 H6 x6 wk6 => ?_
        have R6 := R5.fw x6
        have hDl6 : H6 Dl = some (.lst acc) := x6.keep Dl _ nad hDl5
        have nB6 : B6 Dl = none := x6.nB nB5 hDl5
        have y6 : Fw ad c6 B1 H1 B6 (delH H6 Dl) := R1.trans y5 (x6.del nB5 hDl5 nad)
        refine ⟨fun j k H' => k = ys.length - j ∧ j ≤ ys.length ∧ ∃ (B' : Hp) (cc : Dr) (acc : List V) (done rest : List D), H' Dl = some (.lst acc) ∧ DpAll K B' acc done ∧ Fw ad cc B1 H1 B' (delH H' Dl) ∧ B' Dl = none ∧ Same B6 B' ∧ Rl K ad B' σ4 H' ρ2 cc ∧ lcS g1 t1 e (wipeR ρ2 vs1) (ys.drop j) cc = some (rest, c7) ∧ ds = done ++ (rest ++ r2),
          ⟨ys.length, by rw [Nat.sub_zero], Nat.zero_le _, B6, c6, acc, done, r1, hDl6, dpAll_mono x6.bb _ _ d5, y6, nB6, Same.refl B6, R6, by rw [List.drop_zero]; exact e11, ed⟩, fun j k H7 hW1 => ?_⟩
        obtain ⟨rfl, hj, B7, c9, acc7, done7, rest7, hDl7, dacc7, y7, nB7, s67, R7, e7', ed7⟩ := hW1
        obtain ⟨v1, v2⟩ := wk6 B7 H7 s67 R7.sub
        by_cases hlt1 : j < ys.length
        · obtain ⟨go1, yl1⟩ := v2 j _ (List.getElem?_eq_getElem hlt1)
          rw [List.drop_eq_getElem_cons hlt1] at e7'
          obtain ⟨ρ3, f3, f4⟩ := Option.bind_eq_some_iff.mp e7'
          obtain ⟨⟨b1, c10⟩, f5, f6⟩ := Option.bind_eq_some_iff.mp f4
          refine .inr ⟨go1, fun H2 => ys.length - (j + 1) = ys.length - (j + 1) ∧ j + 1 ≤ ys.length ∧ ∃ (B' : Hp) (cc : Dr) (acc : List V) (done rest : List D), H2 Dl = some (.lst acc) ∧ DpAll K B' acc done ∧ Fw ad cc B1 H1 B' (delH H2 Dl) ∧ B' Dl = none ∧ Same B6 B' ∧ Rl K ad B' σ4 H2 ρ2 cc ∧ lcS g1 t1 e (wipeR ρ2 vs1) (ys.drop (j + 1)) cc = some (rest, c7) ∧ ds = done ++ (rest ++ r2), fun H2 h2 => ⟨ys.length - (j + 1), by omega, h2⟩, fun u H8 hu => ?_⟩
          obtain ⟨B8, gr8, du⟩ := yl1 u H8 hu
          have x8 : Fw ad c9 B7 H7 B8 H8 := gr8.fw R7.cell
          have hDl8 : H8 Dl = some (.lst acc7) := gr8.hh Dl _ hDl7
          have nB8 : B8 Dl = none := x8.nB nB7 hDl7
          have R8 := (R7.fw x8).wiped vs1
          have on1 := ho1 u (wipe σ4 vs1) H8 _ (hg1 ad B8 (wipe σ4 vs1) H8 (wipeR ρ2 vs1) c9 u _ ρ3 (fun σ5 H9 => H9 = H8 ∧ Rl K ad B8 σ5 H8 ρ3 c9) R8 du f3 fun σ5 R9 _ => ⟨rfl, R9⟩)
          refine mn1 _ _ _ _ _ (fun σ5 H9 h9 => ?_) on1
          obtain ⟨⟨rfl, R9⟩, ew1⟩ := h9
          refine ⟨ew1.trans wipe_idem, ?_⟩
          refine ht1 ad B8 σ5 H9 ρ3 c9 b1 c10 _ R9 f5 fun B10 H10 x10 => ?_
          have R10 := R9.fw x10
          have hDl10 : H10 Dl = some (.lst acc7) := x10.keep Dl _ nad hDl8
          have nB10 : B10 Dl = none := x10.nB nB8 hDl8
          have x810 : Fw ad c10 B7 H7 B10 H10 := R7.trans x8 x10
          have y10 : Fw ad c10 B1 H1 B10 (delH H10 Dl) := R1.trans y7 (x810.del nB7 hDl7 nad)
          cases b1 with
          | false =>
            rw [if_neg Bool.false_ne_true]
            have f6' : lcS g1 t1 e (wipeR ρ2 vs1) (ys.drop (j + 1)) c10 = some (rest7, c7) := f6
            exact ⟨rfl, hlt1, B10, c10, acc7, done7, rest7, hDl10, dpAll_mono x810.bb _ _ dacc7, y10, nB10, s67.trans x810.bb, R7.fw x810, f6', ed7⟩
          | true =>
            rw [if_pos rfl]
            have f6' : ((e ρ3 c10).bind fun q => (lcS g1 t1 e (wipeR ρ2 vs1) (ys.drop (j + 1)) q.2).bind fun r => some (q.1 :: r.1, r.2)) = some (rest7, c7) := f6
            obtain ⟨⟨d11, c11⟩, f7, f8⟩ := Option.bind_eq_some_iff.mp f6'
            obtain ⟨⟨rest', c12⟩, f9, f10⟩ := Option.bind_eq_some_iff.mp f8
            cases f10
            refine he ad B10 σ5 H10 ρ3 c10 d11 c11 _ R10 f7 fun w B11 H11 x11 dw => ?_
            have hDl11 : H11 Dl = some (.lst acc7) := x11.keep Dl _ nad hDl10
            have x711 : Fw ad c11 B7 H7 B11 H11 := R7.trans x810 x11
            have nB11 : B11 Dl = none := x711.nB nB7 hDl7
            have y11 : Fw ad c11 B1 H1 B11 (delH H11 Dl) := R1.trans y7 (x711.del nB7 hDl7 nad)
            refine ⟨acc7, hDl11, ?_, rfl, hlt1, B11, c11, acc7 ++ [w], done7 ++ [d11], rest', upd_same, dpAll_snoc (dpAll_mono x711.bb _ _ dacc7) dw, by rw [delH_upd']; exact y11, nB11, s67.trans x711.bb, (R7.fw x711).poke no4 hDl11 nB11 nad, f9, by rw [ed7]; simp⟩
            have : acc7.length = done7.length := dpAll_len dacc7
            rw [ed7] at hz'
            simp at hz'
            rw [sizeLine_eq]; omega
        · have ej : j = ys.length := by omega
          subst ej
          rw [List.drop_length] at e7'
          cases e7'
          refine .inl ⟨v1, rfl, hlt, B7, c7, acc7, done7, r2, hDl7, dacc7, y7, e13, by rw [ed7]; rfl⟩
    · have ei : i = xs.length := by omega
      subst ei
      rw [List.drop_length] at e'
      cases e'
      refine .inl ⟨w1, ?_⟩
      rw [List.append_nil] at ed
      subst ed
      exact q Dl acc B' H' (delH H' Dl) (R.trans x y) delH_self (upd_delH hDl).symm dacc
  · rw [if_neg hz] at e4; cases e4
end
end DL
/-! DLu: pop; how many keys a dict has, and the least one of one; remainders by any sign. -/
namespace DL
open PySem PySem.Spec L2 PyProof.Rows
section
variable {K : PySem.W.Frag} {X : Cx}
/-! ### y = x.pop() -/
def sPopTo (j i : Nat) : SS := fun ρ c => if i = j then none else match ρ[i]? with
  | some (.ol xs) => match xs[xs.length - 1]? with
    | some d => some (.nx, (ρ.set i (.ol (xs.take (xs.length - 1)))).set j (.im d), c)
    | none => none
  | _ => none
theorem imp_popTo {j i : Nat} : ImpS K (tAsg (tBM0 K "list" rPop (tVar i)) (gName j)) (sPopTo j i) := fun ad B σ H ρ c r D R e q => by
  unfold sPopTo at e
  split at e
  · cases e
  · split at e
    · rename_i xs e0
      split at e
      · rename_i d e1
        cases e
        obtain ⟨p, vs, g1, g2, g3, g4, g5⟩ := R.slot i _ e0
        obtain ⟨v, e2, dv⟩ := dpAll_get g5 e1
        have hl := dpAll_len g5
        refine ⟨.ref p, g1, .inl ⟨rfl, _, SqL.of g2⟩, p, vs, v, rfl, rfl, g2, by rw [hl]; exact e2, ?_⟩
        obtain ⟨R2, y⟩ := R.chOl (i := i) e0 rfl g1 (dpAll_take (xs.length - 1) g5)
        rw [List.dropLast_eq_take, hl]
        exact q B _ _ (R2.setIm (i := j) dv) (FwS.trans R R2 y (FwS.setNo R2 rfl))
      · cases e
    · cases e
/-! ### len(d), min(d) -/
def sDLenO (i : Nat) : SE := fun ρ c => match ρ[i]? with
  | some (.od kvs) => some (.int kvs.length, c)
  | _ => none
theorem imp_dlen {i : Nat} : ImpE K (tCB (fun xs H Q => ∃ a kvs, xs = [V.ref a] ∧ H a = some (.dK kvs) ∧ Q (.int kvs.length) H) (tCons (tVar i) tNil)) (sDLenO i) := fun ad B σ H ρ c d c' Q R e q => by
  unfold sDLenO at e
  split at e
  · rename_i kvs e0
    cases e
    obtain ⟨a, ks, g1, g2, g3, g4, g5⟩ := R.slot i _ e0
    refine ⟨.ref a, g1, a, ks, rfl, g2, ?_⟩
    rw [kv_len g5]
    exact q _ B H R.fwRefl (.int _)
  · cases e
def rMinD : List V → Hp → VK → Prop := fun xs H Q => ∃ (a : Addr) (k : Int) (v : V), xs = [V.ref a] ∧ H a = some (.dK [(Sum.inl k, v)]) ∧ Q (.int k) H
theorem call_minD (hc : X.calm = true) : CallR X (.builtin "min") rMinD := by
  intro pins s σ H xs us Q I r h
  obtain ⟨a, k, v, rfl, hk, q⟩ := h
  rw [Vals.ref1 r]
  obtain ⟨z, lo, vs, rk, hd⟩ := (show ObjOk X.prog X.w H s.heap a (.dK [(Sum.inl k, v)]) from I.hok a _ hk)
  obtain ⟨ep, hat⟩ := hd.dictAt
  have hl : 1 = vs.length := Paired.length rk
  have kk := KV.keys rk
  obtain ⟨oI, St, hit, W, st⟩ := (PySem.W.kdl_dict (knd := mixKind X.prog X.w) (kvs := vs) (ep := ep) lo).iter X.A.in1 s (I.ok.hd hc) hat
  have hval : ∀ (i : Nat) (u : Value), (∃ k x, vs[i]? = some (k, x) ∧ (mixKind X.prog X.w).is k u = true) → ∃ t, u = .int ((fun _ => k) i) t := fun i u hu => by
    obtain ⟨k', y, h1, h2⟩ := hu
    have hi : i < vs.length := (List.getElem?_eq_some_iff.mp h1).1
    have e1 : (vs.map (·.1))[i]? = some k' := by rw [List.getElem?_map, h1]; rfl
    have kk' : [(Sum.inl k : Key)] = vs.map (·.1) := kk
    rw [← kk'] at e1
    have ei : i = 0 := by omega
    subst ei
    cases e1
    exact keyIs_rel (show keyIs (Sum.inl k) u = true from h2)
  refine call_min_walk (hit _ _ ⟨_, _, _, _, _, _, _, rfl, W, st, fun b hb => ?_, by omega, CmpOf.ints_lt (fun _ => k) hval, fun u h' tk hP hkeep => ?_⟩)
  · show b < (s.heap.push oI).objs.size
    rw [Heap.size_push]
    have ha := hat.lt_size
    rcases List.mem_cons.mp hb with e | hb
    · rw [e]; exact Nat.lt_succ_self _
    · rw [List.mem_singleton.mp hb]; exact Nat.lt_succ_of_lt ha
  · obtain ⟨t, rfl⟩ := hval _ u hP
    refine ⟨.int k, H, I.kept fun b o e => ?_, ⟨t, rfl⟩, q⟩
    refine hkeep b o (fun hm => ?_) (Heap.get?_push_of_some _ e)
    have := Heap.lt_size e
    rw [List.mem_singleton.mp hm] at this
    exact Nat.lt_irrefl _ this
def sDMin (i : Nat) : SE := fun ρ c => match ρ[i]? with
  | some (.od [(k, _)]) => some (.int k, c)
  | _ => none
theorem imp_dmin {i : Nat} : ImpE K (tCB rMinD (tCons (tVar i) tNil)) (sDMin i) := fun ad B σ H ρ c d c' Q R e q => by
  unfold sDMin at e
  split at e
  · rename_i k d0 e0
    cases e
    obtain ⟨a, ks, g1, g2, g3, g4, g5⟩ := R.slot i _ e0
    cases g5 with
    | @cons p _ ps _ r1 r2 =>
      cases r2
      obtain ⟨r1, _⟩ := r1
      have : p = (Sum.inl k, p.2) := by rw [← r1]
      rw [this] at g2
      exact ⟨.ref a, g1, a, k, p.2, rfl, g2, q _ B H R.fwRefl (.int _)⟩
  · cases e
/-! ### a % b, b of any sign -/
def modN : D → D → Option D
  | .int a, .int b => if b = 0 then none else some (.int (a.fmod b))
  | _, _ => none
theorem d_modN : OpD K (rI (fun _ j => j ≠ 0) fun i j => .int (i.fmod j)) modN := fun B H x y d e z Q s hx hy h q => by
  cases hx with
  | int a =>
    cases hy with
    | int b =>
      have h' : (if b = 0 then none else some (PyData.int (a.fmod b))) = some z := h
      split at h'
      · cases h'
      · rename_i hz
        cases h'
        exact ⟨a, b, rfl, rfl, hz, q _ B H (Grow.refl s) (.int _)⟩
    | _ => cases h
  | _ => cases h
end
end DL
/-! DLx: a list of lists of one's own, filled by loops, then plain data. -/
namespace DL
open PySem PySem.Spec L2
section
variable {K : PySem.W.Frag}
/-- at slot i a list a of lists bs; nss what they hold -/
structure NeOk (K : PySem.W.Frag) (ad : Option Addr) (B H : Hp) (σ : L2.St) (ρ : Rho) (i : Nat) (a : Addr) (bs : List Addr) (nss : List (List D)) : Prop where
  at_ : σ[i]? = some (some (.ref a))
  un : ρ[i]? = some .un
  ha : H a = some (.lst (bs.map V.ref))
  na : B a = none
  aa : ad ≠ some a
  ao : ¬ Owned ρ σ a
  ab : a ∉ bs
  len : bs.length = nss.length
  nd : bs.Nodup
  inn : ∀ (j : Nat) (b : Addr), bs[j]? = some b → ∃ vs xs, nss[j]? = some xs ∧ H b = some (.lst vs) ∧ DpAll K B vs xs ∧ B b = none ∧ ad ≠ some b ∧ ¬ Owned ρ σ b
/-- a way on which the lists bs may grow -/
structure FwN (ad : Option Addr) (bs : List Addr) (B : Hp) (σ : L2.St) (H : Hp) (ρ : Rho) (B' : Hp) (σ' : L2.St) (H' : Hp) (ρ' : Rho) : Prop where
  bb : Same B B'
  keep : ∀ x o, ad ≠ some x → H x = some o → ¬ Owned ρ σ x → x ∉ bs → H' x = some o
  fresh : ∀ x o, B' x = some o → B x = none → H x = none ∨ Owned ρ σ x
  own : ∀ x, Owned ρ' σ' x → Owned ρ σ x ∨ H x = none
  al : ∀ b, b ∈ bs → ∃ o, H' b = some o
variable {ad : Option Addr} {B B1 B2 B' H H1 H2 H' : Hp} {σ σ1 σ2 σ' : L2.St} {ρ ρ1 ρ2 ρ' : Rho} {c c1 c2 c' : Dr} {i : Nat} {a : Addr} {bs : List Addr} {nss : List (List D)}
theorem NeOk.alive (n : NeOk K ad B H σ ρ i a bs nss) : ∀ b, b ∈ bs → ∃ o, H b = some o := fun b hb => by
  obtain ⟨j, hj, e⟩ := List.getElem_of_mem hb
  obtain ⟨vs, xs, _, h, _⟩ := n.inn j b (by rw [List.getElem?_eq_getElem hj, e])
  exact ⟨_, h⟩
theorem FwN.refl (n : NeOk K ad B H σ ρ i a bs nss) : FwN ad bs B σ H ρ B σ H ρ :=
  ⟨Same.refl B, fun _ _ _ h _ _ => h, fun x o h m => (by rw [h] at m; cases m), fun x z => .inl z, n.alive⟩
theorem FwN.trans (r : Rl K ad B σ H ρ c) (r1 : Rl K ad B1 σ1 H1 ρ1 c1) (x : FwN ad bs B σ H ρ B1 σ1 H1 ρ1) (y : FwN ad bs B1 σ1 H1 ρ1 B2 σ2 H2 ρ2) : FwN ad bs B σ H ρ B2 σ2 H2 ρ2 := by
  have back : ∀ z, H1 z = none → Owned ρ σ z ∨ H z = none := fun z q => by
    by_cases w : Owned ρ σ z
    · exact .inl w
    · cases e : H z with
      | none => exact .inr rfl
      | some u =>
        have n1 : ad ≠ some z := fun z' => by
          have := r1.cell z z'
          rw [q] at this; cases this
        have n2 : z ∉ bs := fun z' => by
          obtain ⟨o, h⟩ := x.al z z'
          rw [q] at h; cases h
        rw [x.keep z u n1 e w n2] at q; cases q
  refine ⟨x.bb.trans y.bb, fun z o n h no nb => ?_, fun z o h n => ?_, fun z w => ?_, y.al⟩
  · refine y.keep z o n (x.keep z o n h no nb) (fun w => ?_) nb
    rcases x.own z w with q | q
    · exact no q
    · rw [h] at q; cases q
  · cases q : B1 z with
    | some u => exact x.fresh z u q n
    | none =>
      rcases y.fresh z o h q with w | w
      · exact (back z w).symm
      · exact (x.own z w).symm
  · rcases y.own z w with q | q
    · exact x.own z q
    · exact back z q
/-- an expression on the way -/
theorem NeOk.fw (n : NeOk K ad B H σ ρ i a bs nss) (x : Fw ad c' B H B' H') : NeOk K ad B' H' σ ρ i a bs nss where
  at_ := n.at_
  un := n.un
  ha := x.keep a _ n.aa n.ha
  na := x.nB n.na n.ha
  aa := n.aa
  ao := n.ao
  ab := n.ab
  len := n.len
  nd := n.nd
  inn := fun j b e => by
    obtain ⟨vs, xs, h1, h2, h3, h4, h5, h6⟩ := n.inn j b e
    exact ⟨vs, xs, h1, x.keep b _ h5 h2, dpAll_mono x.bb _ _ h3, x.nB h4 h2, h5, h6⟩
theorem FwN.ofFw (n : NeOk K ad B H σ ρ i a bs nss) (x : Fw ad c' B H B' H') : FwN ad bs B σ H ρ B' σ H' ρ :=
  ⟨x.bb, fun z o m h _ _ => x.keep z o m h, fun z o h m => .inl (x.fresh z o h m), fun z w => .inl w, (n.fw x).alive⟩
/-- slots change, the heap does not -/
theorem NeOk.slots (n : NeOk K ad B H σ ρ i a bs nss) (h1 : σ'[i]? = σ[i]?) (h2 : ρ'[i]? = some .un) (h3 : ∀ x, Owned ρ' σ' x → Owned ρ σ x ∨ H x = none) : NeOk K ad B H σ' ρ' i a bs nss where
  at_ := by rw [h1]; exact n.at_
  un := h2
  ha := n.ha
  na := n.na
  aa := n.aa
  ao := fun z => by
    rcases h3 a z with w | w
    · exact n.ao w
    · rw [n.ha] at w; cases w
  ab := n.ab
  len := n.len
  nd := n.nd
  inn := fun j b e => by
    obtain ⟨vs, xs, g1, g2, g3, g4, g5, g6⟩ := n.inn j b e
    refine ⟨vs, xs, g1, g2, g3, g4, g5, fun z => ?_⟩
    rcases h3 b z with w | w
    · exact g6 w
    · rw [g2] at w; cases w
theorem FwN.slots (n : NeOk K ad B H σ ρ i a bs nss) (h3 : ∀ x, Owned ρ' σ' x → Owned ρ σ x ∨ H x = none) : FwN ad bs B σ H ρ B σ' H ρ' :=
  ⟨Same.refl B, fun _ _ _ h _ _ => h, fun x o h m => (by rw [h] at m; cases m), h3, n.alive⟩

abbrev SN := Rho → List (List D) → Dr → Option (Rho × List (List D) × Dr)
def ImpN (K : PySem.W.Frag) (i : Nat) (t : TS) (f : SN) : Prop := ∀ (ad : Option Addr) (B : Hp) (σ : L2.St) (H : Hp) (ρ : Rho) (c : Dr) (a : Addr) (bs : List Addr) (nss : List (List D)) (r : Rho × List (List D) × Dr) (D : Ends), Rl K ad B σ H ρ c → NeOk K ad B H σ ρ i a bs nss → f ρ nss c = some r →
  (∀ B' σ' H', Rl K ad B' σ' H' r.1 r.2.2 → NeOk K ad B' H' σ' r.1 i a bs r.2.1 → FwN ad bs B σ H ρ B' σ' H' r.1 → D.nx σ' H') → t D σ H
def nSeq (f g : SN) : SN := fun ρ nss c => (f ρ nss c).bind fun r => g r.1 r.2.1 r.2.2
theorem imp_nSeq {t u : TS} {f g : SN} (h1 : ImpN K i t f) (h2 : ImpN K i u g) : ImpN K i (tSeq t u) (nSeq f g) := fun ad B σ H ρ c a bs nss r D R n e q => by
  obtain ⟨r1, e1, e2⟩ := Option.bind_eq_some_iff.mp e
  exact h1 ad B σ H ρ c a bs nss r1 _ R n e1 fun B' σ' H' R' n' x => h2 ad B' σ' H' _ _ a bs _ r D R' n' e2 fun B2 σ2 H2 R2 n2 y => q B2 σ2 H2 R2 n2 (FwN.trans R R' x y)
/-- x = e -/
def nAsg (i : Nat) (a : SE) (j : Nat) : SN := fun ρ nss c => if j = i then none else (a ρ c).bind fun p => some (ρ.set j (.im p.1), nss, p.2)
theorem imp_nAsg {t : TE} {f : SE} {j : Nat} (h : ImpE K t f) : ImpN K i (tAsg t (gName j)) (nAsg i f j) := fun ad B σ H ρ c a bs nss r D R n e q => by
  unfold nAsg at e
  split at e
  · cases e
  · rename_i hj
    obtain ⟨⟨d, c1⟩, e1, e2⟩ := Option.bind_eq_some_iff.mp e
    cases e2
    refine h ad B σ H ρ c d c1 _ R e1 fun v B' H' x dv => ?_
    have R' := R.fw x
    have n' := n.fw x
    have own : ∀ z, Owned (ρ.set j (.im d)) (σ.set j (some v)) z → Owned ρ σ z ∨ H' z = none := fun z w => .inl (owned_set_of R.len rfl w)
    have own0 : ∀ z, Owned (ρ.set j (.im d)) (σ.set j (some v)) z → Owned ρ σ z ∨ H z = none := fun z w => .inl (owned_set_of R.len rfl w)
    refine q B' _ H' (R'.setIm dv) (n'.slots (List.getElem?_set_ne hj) (by rw [List.getElem?_set_ne hj]; exact n.un) own) ?_
    exact FwN.trans R R' (FwN.ofFw n x) (FwN.slots n' own)
/-- x[k].append(e) -/
def nApp (k e : SE) : SN := fun ρ nss c => (k ρ c).bind fun p => match p.1 with
  | .int j => if 0 ≤ j then match nss[j.toNat]? with
    | some xs => (e ρ p.2).bind fun q => if few xs.length = true then some (ρ, nss.set j.toNat (xs ++ [q.1]), q.2) else none
    | none => none
    else none
  | _ => none
theorem imp_nApp {tk te : TE} {k e : SE} (hk : ImpE K tk k) (he : ImpE K te e) : ImpN K i (tDrop (tBM K "list" rAppend (tOp (rIx K) (tVar i) tk) (tCons te tNil))) (nApp k e) := fun ad B σ H ρ c a bs nss r D R n h q => by
  obtain ⟨⟨kd, c1⟩, e1, e2⟩ := Option.bind_eq_some_iff.mp h
  cases kd with
  | int j =>
    have e2 : (if 0 ≤ j then match nss[j.toNat]? with
      | some xs => (e ρ c1).bind fun q => if few xs.length = true then some (ρ, nss.set j.toNat (xs ++ [q.1]), q.2) else none
      | none => none
      else none) = some r := e2
    split at e2
    · rename_i hj
      split at e2
      · rename_i xs hx
        obtain ⟨⟨d, c2⟩, e3, e4⟩ := Option.bind_eq_some_iff.mp e2
        split at e4
        · rename_i hz
          cases e4
          refine ⟨.ref a, n.at_, hk ad B σ H ρ c (.int j) c1 _ R e1 fun u B1 H1 x du => ?_⟩
          have R1 := R.fw x
          have n1 := n.fw x
          have hl : j.toNat < bs.length := by
            rw [n.len]
            exact (List.getElem?_eq_some_iff.mp hx).1
          obtain ⟨b, hb⟩ : ∃ b, bs[j.toNat]? = some b := ⟨_, List.getElem?_eq_getElem hl⟩
          have hat : atI (bs.map V.ref) j = some (.ref b) := by
            have := atI_nat (xs := bs.map V.ref) (j := j.toNat) (v := V.ref b) (by rw [List.getElem?_map, hb]; rfl)
            rwa [show ((j.toNat : Nat) : Int) = j by omega] at this
          obtain ⟨vs, xs', g1, g2, g3, g4, g5, g6⟩ := n1.inn _ b hb
          rw [hx] at g1
          cases g1
          rw [dp_int du]
          refine .inl ⟨a, _, j, .ref b, rfl, rfl, SqL.of n1.ha, hat, .inl ⟨rfl, _, SqL.of g2⟩, he ad B1 σ H1 ρ c1 d c2 _ R1 e3 fun v B2 H2 y dv => ?_⟩
          have R2 := R1.fw y
          have n2 := n1.fw y
          obtain ⟨vs2, xs2, k1, k2, k3, k4, k5, k6⟩ := n2.inn _ b hb
          rw [hx] at k1
          cases k1
          have mem : b ∈ bs := List.mem_of_getElem? hb
          refine ⟨b, vs2, v, rfl, rfl, k2, by rw [dpAll_len k3]; exact few_lt hz, ?_⟩
          have x02 : Fw ad c2 B H B2 H2 := R.trans x y
          have n3 : NeOk K ad B2 (upd H2 b (.lst (vs2 ++ [v]))) σ ρ i a bs (nss.set j.toNat (xs ++ [d])) := by
            refine ⟨n2.at_, n2.un, ?_, n2.na, n2.aa, n2.ao, n2.ab, by rw [List.length_set]; exact n2.len, n2.nd, fun m b' hb' => ?_⟩
            · rw [upd_ne (fun z => by rw [z] at n2; exact n2.ab mem)]; exact n2.ha
            · obtain ⟨us, ys, l1, l2, l3, l4, l5, l6⟩ := n2.inn m b' hb'
              by_cases hm : m = j.toNat
              · subst hm
                rw [hb] at hb'
                cases hb'
                refine ⟨vs2 ++ [v], xs ++ [d], List.getElem?_set_self (by rw [← n2.len]; exact hl), upd_same, dpAll_snoc k3 dv, k4, k5, k6⟩
              · have hne : b' ≠ b := fun z => by
                  subst z
                  have h1 := List.getElem?_eq_some_iff.mp hb'
                  have h2 := List.getElem?_eq_some_iff.mp hb
                  have pw := List.pairwise_iff_getElem.mp n2.nd
                  rcases Nat.lt_or_gt_of_ne hm with w | w
                  · exact pw m j.toNat h1.1 h2.1 w (h1.2.trans h2.2.symm)
                  · exact pw j.toNat m h2.1 h1.1 w (h2.2.trans h1.2.symm)
                refine ⟨us, ys, by rw [List.getElem?_set_ne (Ne.symm hm)]; exact l1, by rw [upd_ne hne]; exact l2, l3, l4, l5, l6⟩
          refine q B2 σ _ (R2.poke k6 k2 k4 k5) n3 (FwN.trans R R2 (FwN.ofFw n x02) ⟨Same.refl B2, fun z o m hz' _ nb => ?_, fun z o h1 m => (by rw [h1] at m; cases m), fun z w => .inl w, n3.alive⟩)
          rw [upd_ne (fun w => nb (by rw [w]; exact mem))]
          exact hz'
        · cases e4
      · cases e2
    · cases e2
  | _ => cases e2
/-- behind a turn some slots are not known any more -/
def nThen (is : List Nat) (f : SN) : SN := fun ρ nss c => (f ρ nss c).bind fun r => some (unset is r.1, r.2.1, r.2.2)
theorem unset_un : ∀ (is : List Nat) {ρ : Rho}, ρ[i]? = some .un → (unset is ρ)[i]? = some .un
  | [], _, h => h
  | j :: is, ρ, h => by
    show (unset is (ρ.set j .un))[i]? = some .un
    refine unset_un is ?_
    by_cases e : j = i
    · subst e
      rw [List.getElem?_set_self (List.getElem?_eq_some_iff.mp h).1]
    · rw [List.getElem?_set_ne e]; exact h
theorem imp_nThen {t : TS} {f : SN} (is : List Nat) (h : ImpN K i t f) : ImpN K i t (nThen is f) := fun ad B σ H ρ c a bs nss r D R n e q => by
  obtain ⟨r1, e1, e2⟩ := Option.bind_eq_some_iff.mp e
  cases e2
  refine h ad B σ H ρ c a bs nss r1 D R n e1 fun B' σ' H' R' n' x => ?_
  obtain ⟨R2, y⟩ := R'.forgets is
  exact q B' σ' H' R2 (n'.slots rfl (unset_un is n'.un) y.own) (FwN.trans R R' x (FwN.slots n' y.own))
/-- a loop -/
def forN (g : D → Rho → Option Rho) (body : SN) : List D → SN
  | [] => fun ρ nss c => some (ρ, nss, c)
  | x :: xs => fun ρ nss c => (g x ρ).bind fun ρ1 => (body ρ1 nss c).bind fun r => forN g body xs r.1 r.2.1 r.2.2
def nFor (f : SI) (g : D → Rho → Option Rho) (body : SN) : SN := fun ρ nss c => (f ρ c).bind fun p => forN g body p.1 ρ nss p.2
theorem wipe_get {i : Nat} : ∀ {vs : List Nat} {σ : L2.St}, i ∉ vs → (wipe σ vs)[i]? = σ[i]?
  | [], _, _ => rfl
  | v :: vs, σ, h => by
    show ((wipe σ vs).set v none)[i]? = σ[i]?
    rw [List.getElem?_set_ne (fun z => h (by rw [z]; exact List.mem_cons_self)), wipe_get fun z => h (List.mem_cons_of_mem _ z)]
theorem imp_nFor {wi : TI} {tg : TG} {tb : TS} {f : SI} {g : D → Rho → Option Rho} {body : SN} {vs : List Nat} (hf : ImpI K wi f) (hg : ImpG K tg g) (ho : OnlyG tg vs) (mn : MonoG tg) (hi : i ∉ vs) (hu : ∀ d ρ ρ', g d ρ = some ρ' → ρ'[i]? = ρ[i]?) (hb : ImpN K i tb body) :
    ImpN K i (tFor wi tg tb) (nFor f g body) := fun ad B σ H ρ c a bs nss r D R n e q => by
  obtain ⟨⟨xs, c1⟩, e1, e2⟩ := Option.bind_eq_some_iff.mp e
  refine hf ad B σ H ρ c xs c1 _ R e1 fun J B1 H1 x wk => ?_
  have R1 := R.fw x
  have n1 := n.fw x
  have y01 := FwN.ofFw n x
  refine ⟨fun k m σ' H' => m = xs.length - k ∧ k ≤ xs.length ∧ ∃ B' ρ' nss' c', Rl K ad B' σ' H' ρ' c' ∧ NeOk K ad B' H' σ' ρ' i a bs nss' ∧ FwN ad bs B1 σ H1 ρ B' σ' H' ρ' ∧ forN g body (xs.drop k) ρ' nss' c' = some r,
    ⟨xs.length, by rw [Nat.sub_zero], Nat.zero_le _, B1, ρ, nss, c1, R1, n1, FwN.refl n1, by rw [List.drop_zero]; exact e2⟩, fun k m σ' H' hW => ?_⟩
  obtain ⟨rfl, hk, B', ρ', nss', c', R', n', y, e'⟩ := hW
  obtain ⟨w1, w2⟩ := wk B' H' y.bb R'.sub
  by_cases hlt : k < xs.length
  · obtain ⟨go, yl⟩ := w2 k _ (List.getElem?_eq_getElem hlt)
    rw [List.drop_eq_getElem_cons hlt] at e'
    obtain ⟨ρ2, e3, e4⟩ := Option.bind_eq_some_iff.mp e'
    obtain ⟨r3, e5, e6⟩ := Option.bind_eq_some_iff.mp e4
    refine .inr ⟨go, fun σ2 H2 => xs.length - (k + 1) = xs.length - (k + 1) ∧ k + 1 ≤ xs.length ∧ ∃ B2 ρ2 nss2 c2, Rl K ad B2 σ2 H2 ρ2 c2 ∧ NeOk K ad B2 H2 σ2 ρ2 i a bs nss2 ∧ FwN ad bs B1 σ H1 ρ B2 σ2 H2 ρ2 ∧ forN g body (xs.drop (k + 1)) ρ2 nss2 c2 = some r, fun σ2 H2 h2 => ⟨xs.length - (k + 1), by omega, h2⟩, fun v H3 hv => ?_⟩
    obtain ⟨B3, gr, dv⟩ := yl v H3 hv
    have x3 : Fw ad c' B' H' B3 H3 := gr.fw R'.cell
    have R3 := R'.fw x3
    have n3 := n'.fw x3
    have y3 := FwN.trans R1 R' y (FwN.ofFw n' x3)
    have on := ho v σ' H3 _ (hg ad B3 σ' H3 ρ' c' v _ ρ2 (fun σ4 H4 => H4 = H3 ∧ Rl K ad B3 σ4 H3 ρ2 c' ∧ FwS ad B3 σ' H3 ρ' B3 σ4 H3 ρ2) R3 dv e3 fun σ4 R4 y4 => ⟨rfl, R4, y4⟩)
    refine mn _ _ _ _ _ (fun σ4 H4 h4 => ?_) on
    obtain ⟨⟨rfl, R4, y4⟩, ew⟩ := h4
    have es : σ4[i]? = σ'[i]? := by rw [← wipe_get (vs := vs) (σ := σ4) hi, ew, wipe_get hi]
    have n4 := n3.slots es (by rw [hu _ _ _ e3]; exact n'.un) y4.own
    have y5 := FwN.trans R1 R3 y3 (FwN.slots n3 y4.own)
    refine hb ad B3 σ4 H4 ρ2 c' a bs nss' r3 _ R4 n4 e5 fun B5 σ5 H5 R5 n5 y6 => ?_
    exact ⟨rfl, hlt, B5, _, _, _, R5, n5, FwN.trans R1 R4 y5 y6, e6⟩
  · have ei : k = xs.length := by omega
    subst ei
    rw [List.drop_length] at e'
    cases e'
    exact .inl ⟨w1, q B' σ' H' R' n' (FwN.trans R R1 y01 y)⟩
/-! ### made, filled, and plain data from then on -/
def sNear (i p : Nat) (cnt : SA) (fN : SN) (g : SS) : SS := fun ρ c => (cnt ρ c).bind fun q => match q.1 with
  | [.int n] => if i < ρ.length ∧ okR n = true then (fN (ρ.set i .un) (List.replicate n.toNat []) q.2).bind fun r => g (r.1.set i (.im (.list (r.2.1.map .list)))) r.2.2 else none
  | _ => none
theorem dpAll_refs {bs : List Addr} (hin : ∀ (j : Nat) (b : Addr), bs[j]? = some b → ∃ vs xs, nss[j]? = some xs ∧ B b = some (.lst vs) ∧ DpAll K B vs xs) (hl : bs.length = nss.length) : DpAll K B (bs.map V.ref) (nss.map PyData.list) := by
  induction bs generalizing nss with
  | nil =>
    cases nss with
    | nil => exact .nil
    | cons => cases hl
  | cons b bs ih =>
    cases nss with
    | nil => cases hl
    | cons xs nss =>
      obtain ⟨vs, xs', e1, e2, e3⟩ := hin 0 b rfl
      cases e1
      exact .cons (.lst e2 e3) (ih (fun j b' e => hin (j + 1) b' e) (by simpa using hl))
theorem imp_near {p : Nat} {tn : TA} {cnt : SA} {tF tr : TS} {fN : SN} {g : SS} (hc : ImpA K tn cnt) (hF : ImpN K i tF fN) (hr : ImpS K tr g) :
    ImpS K (tSeq (tAsg (tLc (iRng1 tn) (gName p) tYes (tLst tNil) [p]) (gName i)) (tSeq tF tr)) (sNear i p cnt fN g) := fun ad B σ H ρ c r D R e q => by
  obtain ⟨⟨ds, c1⟩, e1, e2⟩ := Option.bind_eq_some_iff.mp e
  split at e2
  · rename_i q0 n e3
    have e3' : ds = [.int n] := e3
    subst e3'
    split at e2
    · rename_i hz
      obtain ⟨hil, hn⟩ := hz
      obtain ⟨r1, e4, e5⟩ := Option.bind_eq_some_iff.mp e2
      have hn0 : n.natAbs ≤ 1000000 := of_decide_eq_true hn
      refine hc ad B σ H ρ c [.int n] c1 _ R e1 fun vs B1 H1 x dv => ?_
      cases dv with
      | cons d1 dr =>
      cases dr
      obtain ⟨z1, z2⟩ := okR_to hn
      refine ⟨n, by rw [dp_int d1], z1, z2, fun Dl hD => ?_⟩
      have R1 := R.fw x
      refine ⟨fun k m H' => m = n.toNat - k ∧ k ≤ n.toNat ∧ ∃ bs : List Addr, bs.length = k ∧ H' Dl = some (.lst (bs.map V.ref)) ∧ bs.Nodup ∧ (∀ b ∈ bs, H1 b = none ∧ b ≠ Dl ∧ H' b = some (.lst [])) ∧ ∀ y o, H1 y = some o → H' y = some o,
        ⟨n.toNat, by rw [Nat.sub_zero], Nat.zero_le _, [], rfl, upd_same, List.nodup_nil, fun b hb => (by cases hb), fun y o h => by rw [upd_ne (ne_of_none h hD)]; exact h⟩, fun k m H' hW => ?_⟩
      obtain ⟨rfl, hk, bs, hb1, hb2, hb3, hb4, hb5⟩ := hW
      by_cases hlt : k < n.toNat
      · refine .inr ⟨hlt, fun H2 => n.toNat - (k + 1) = n.toNat - (k + 1) ∧ k + 1 ≤ n.toNat ∧ ∃ bs : List Addr, bs.length = k + 1 ∧ H2 Dl = some (.lst (bs.map V.ref)) ∧ bs.Nodup ∧ (∀ b ∈ bs, H1 b = none ∧ b ≠ Dl ∧ H2 b = some (.lst [])) ∧ ∀ y o, H1 y = some o → H2 y = some o, fun H2 h2 => ⟨n.toNat - (k + 1), by omega, h2⟩, fun v H3 hv => ?_⟩
        obtain ⟨rfl, rfl⟩ := hv
        refine ⟨?_, ?_⟩
        · show (((σ.set p none).set p (some _)).set p none) = σ.set p none
          rw [List.set_set, List.set_set]
        · unfold tYes
          dsimp only
          rw [if_pos rfl]
          refine ⟨Nat.zero_le _, fun b nb => ?_⟩
          have hne : b ≠ Dl := fun z => by rw [z, hb2] at nb; cases nb
          have hnb : b ∉ bs := fun z => by
            have := (hb4 b z).2.2
            rw [nb] at this; cases this
          have h1b : H1 b = none := by
            cases w : H1 b with
            | none => rfl
            | some o =>
              rw [hb5 b o w] at nb; cases nb
          refine ⟨bs.map V.ref, by rw [upd_ne hne.symm]; exact hb2, by rw [List.length_map, hb1, sizeLine_eq]; omega, rfl, hlt, bs ++ [b], by simp [hb1], ?_, ?_, fun b' hb' => ?_, fun y o h => ?_⟩
          · rw [upd_same]; simp
          · rw [List.nodup_append]
            refine ⟨hb3, by simp, fun u hu w hw => ?_⟩
            rw [List.mem_singleton.mp hw]
            exact fun z => hnb (z ▸ hu)
          · rcases List.mem_append.mp hb' with w | w
            · obtain ⟨g1, g2, g3⟩ := hb4 b' w
              refine ⟨g1, g2, ?_⟩
              rw [upd_ne g2, upd_ne (fun z => by subst z; exact hnb w)]
              exact g3
            · rw [List.mem_singleton.mp w]
              exact ⟨h1b, hne, by rw [upd_ne hne, upd_same]⟩
          · have hy : y ≠ Dl := fun z => by rw [z, hD] at h; cases h
            rw [upd_ne hy, upd_ne (fun z => by rw [z, h1b] at h; cases h)]
            exact hb5 y o h
      · have ek : k = n.toNat := by omega
        subst ek
        refine .inl ⟨Nat.le_refl _, ?_⟩
        -- behind its making
        have s1 : Same H1 H' := hb5
        have x1 : Fw ad c1 B1 H1 B1 H' := ⟨Same.refl B1, R1.sub.trans s1, fun y o _ h => s1 y o h, fun y h => s1 y _ (R1.cell y h), fun y o h m => by rw [h] at m; cases m⟩
        have R2 : Rl K ad B1 (σ.set i (some (.ref Dl))) H' (ρ.set i .un) c1 := (R1.fw x1).setUn i (some (.ref Dl))
        have own1 : ∀ y, Owned (ρ.set i .un) (σ.set i (some (.ref Dl))) y → Owned ρ σ y := fun y w => owned_set_of R.len rfl w
        have notown : ∀ y, H1 y = none → ¬ Owned (ρ.set i .un) (σ.set i (some (.ref Dl))) y := fun y hy w => by
          obtain ⟨_, _, o, h⟩ := R1.ownB (own1 y w)
          rw [hy] at h; cases h
        have notad : ∀ y, H1 y = none → ad ≠ some y := fun y hy w => by rw [R1.cell y w] at hy; cases hy
        have n2 : NeOk K ad B1 H' (σ.set i (some (.ref Dl))) (ρ.set i .un) i Dl bs (List.replicate n.toNat []) := by
          refine ⟨List.getElem?_set_self (by rw [R.len]; exact hil), List.getElem?_set_self hil, hb2, R1.sub.free hD, notad Dl hD, notown Dl hD, fun z => (hb4 Dl z).2.1 rfl, by rw [hb1, List.length_replicate], hb3, fun j b hj => ?_⟩
          have hm := List.mem_of_getElem? hj
          obtain ⟨g1, g2, g3⟩ := hb4 b hm
          refine ⟨[], [], ?_, g3, .nil, R1.sub.free g1, notad b g1, notown b g1⟩
          have hjl : j < n.toNat := by rw [← hb1]; exact (List.getElem?_eq_some_iff.mp hj).1
          rw [List.getElem?_replicate, if_pos hjl]
        have y2 : FwS ad B σ H ρ B1 (σ.set i (some (.ref Dl))) H' (ρ.set i .un) := ⟨x.bb, fun y o m h _ => s1 y _ (x.keep y o m h), fun y o h m => .inl (x.fresh y o h m), fun y w => .inl (own1 y w)⟩
        have freeH : ∀ y, H1 y = none → H y = none ∨ Owned ρ σ y := fun y hy => by
          cases w : H y with
          | none => exact .inl rfl
          | some o =>
            have na : ad ≠ some y := notad y hy
            rw [x.keep y o na w] at hy; cases hy
        refine hF ad B1 _ H' (ρ.set i .un) c1 Dl bs _ r1 _ R2 n2 e4 fun B3 σ3 H3 R3 n3 y3 => ?_
        -- plain data from here on
        have isN : ∀ y, (y = Dl ∨ y ∈ bs) → B3 y = none ∧ ¬ Owned r1.1 σ3 y ∧ ad ≠ some y ∧ ∃ us, H3 y = some (.lst us) := fun y hy => by
          rcases hy with z | z
          · subst z; exact ⟨n3.na, n3.ao, n3.aa, _, n3.ha⟩
          · obtain ⟨j, hj, ej⟩ := List.getElem_of_mem z
            obtain ⟨us, xs, g1, g2, g3, g4, g5, g6⟩ := n3.inn j y (by rw [List.getElem?_eq_getElem hj, ej])
            exact ⟨g4, g6, g5, us, g2⟩
        let B4 : Hp := fun y => if y = Dl ∨ y ∈ bs then H3 y else B3 y
        have b4t : ∀ {y}, (y = Dl ∨ y ∈ bs) → B4 y = H3 y := fun {y} h => if_pos h
        have b4f : ∀ {y}, ¬ (y = Dl ∨ y ∈ bs) → B4 y = B3 y := fun {y} h => if_neg h
        have b34 : Same B3 B4 := fun y o h => by
          by_cases w : y = Dl ∨ y ∈ bs
          · rw [(isN y w).1] at h; cases h
          · rw [b4f w]; exact h
        have dp : Dp K B4 (.ref Dl) (.list (r1.2.1.map PyData.list)) := by
          refine .lst (by rw [b4t (.inl rfl)]; exact n3.ha) (dpAll_refs (fun j b hj => ?_) n3.len)
          obtain ⟨us, xs, g1, g2, g3, g4, g5, g6⟩ := n3.inn j b hj
          exact ⟨us, xs, g1, by rw [b4t (.inr (List.mem_of_getElem? hj))]; exact g2, dpAll_mono b34 _ _ g3⟩
        have hil3 : i < r1.1.length := (List.getElem?_eq_some_iff.mp n3.un).1
        have R4 : Rl K ad B4 σ3 H3 (r1.1.set i (.im (.list (r1.2.1.map PyData.list)))) r1.2.2 := by
          refine ⟨fun y o h => ?_, R3.cell, fun y h => ?_, by rw [List.length_set]; exact R3.len, fun j s hj => ?_, fun j k s t b hjk h1 h2 o1 o2 g1 => ?_⟩
          · by_cases w : y = Dl ∨ y ∈ bs
            · rw [b4t w] at h; exact h
            · rw [b4f w] at h; exact R3.sub y o h
          · by_cases w : y = Dl ∨ y ∈ bs
            · exact absurd h (isN y w).2.2.1
            · rw [b4f w]; exact R3.cfree y h
          · by_cases hji : j = i
            · subst hji
              rw [List.getElem?_set_self hil3] at hj
              cases hj
              exact ⟨.ref Dl, n3.at_, dp⟩
            · rw [List.getElem?_set_ne (Ne.symm hji)] at hj
              have qq := R3.slot j s hj
              have other : ∀ y, Owned r1.1 σ3 y → B3 y = none → B4 y = none := fun y w m => by
                by_cases w' : y = Dl ∨ y ∈ bs
                · exact absurd w (isN y w').2.1
                · rw [b4f w']; exact m
              cases s with
              | un => trivial
              | im d => obtain ⟨v, k1, k2⟩ := qq; exact ⟨v, k1, dp_mono b34 _ _ k2⟩
              | ol xs =>
                obtain ⟨b, us, k1, k2, k3, k4, k5⟩ := qq
                exact ⟨b, us, k1, k2, other b ⟨j, _, hj, rfl, k1⟩ k3, k4, dpAll_mono b34 _ _ k5⟩
              | od xs =>
                obtain ⟨b, us, k1, k2, k3, k4, k5⟩ := qq
                exact ⟨b, us, k1, k2, other b ⟨j, _, hj, rfl, k1⟩ k3, k4, kv_mono b34 k5⟩
              | fd xs =>
                obtain ⟨b, w, us, k1, k2, k3, k4, k5⟩ := qq
                refine ⟨b, w, us, k1, k2, ?_, k4, kv_mono b34 k5⟩
                by_cases w' : b = Dl ∨ b ∈ bs
                · obtain ⟨_, _, _, us', hu⟩ := isN b w'
                  rw [k2] at hu; cases hu
                · rw [b4f w']; exact k3
              | op v => exact qq
              | dr => exact qq
          · have nn : ∀ {j : Nat} {s : Sl}, (r1.1.set i (.im (.list (r1.2.1.map PyData.list))))[j]? = some s → owns s = true → r1.1[j]? = some s := fun {j s} h o => by
              by_cases hji : j = i
              · subst hji
                rw [List.getElem?_set_self hil3] at h
                cases h; cases o
              · rw [List.getElem?_set_ne (Ne.symm hji)] at h; exact h
            exact R3.sep j k s t b hjk (nn h1 o1) (nn h2 o2) o1 o2 g1
        -- the whole way
        have y5 : FwS ad B σ H ρ B4 σ3 H3 (r1.1.set i (.im (.list (r1.2.1.map PyData.list)))) := by
          have back : ∀ y, H' y = none → H y = none ∨ Owned ρ σ y := fun y hy => by
            by_cases w : Owned ρ σ y
            · exact .inr w
            · cases e : H y with
              | none => exact .inl rfl
              | some o =>
                have na : ad ≠ some y := fun z => by
                  have := R2.cell y z
                  rw [hy] at this; cases this
                rw [y2.keep y o na e w] at hy; cases hy
          refine ⟨(y2.bb.trans y3.bb).trans b34, fun y o m h no => ?_, fun y o h m => ?_, fun y w => ?_⟩
          · have h' := y2.keep y o m h no
            refine y3.keep y o m h' (fun w => ?_) (fun w => ?_)
            · rcases y2.own y w with u | u
              · exact no u
              · rw [h] at u; cases u
            · rcases freeH y (hb4 y w).1 with u | u
              · rw [h] at u; cases u
              · exact no u
          · by_cases w : y = Dl ∨ y ∈ bs
            · rcases w with w | w
              · subst w; exact freeH _ hD
              · exact freeH y (hb4 y w).1
            · rw [b4f w] at h
              cases u : B1 y with
              | some o' => exact y2.fresh y o' u m
              | none =>
                rcases y3.fresh y o h u with v | v
                · exact back y v
                · exact (y2.own y v).symm
          · have w' : Owned r1.1 σ3 y := by
              obtain ⟨j, t, h1, h2, h3⟩ := w
              by_cases hji : j = i
              · subst hji
                rw [List.getElem?_set_self hil3] at h1
                cases h1; cases h2
              · rw [List.getElem?_set_ne (Ne.symm hji)] at h1
                exact ⟨j, t, h1, h2, h3⟩
            rcases y3.own y w' with u | u
            · exact y2.own y u
            · exact (back y u).symm
        exact hr ad B4 σ3 H3 _ _ r D R4 e5 (Post.trans R R4 y5 q)
    · cases e2
  · cases e2
end
end DL
namespace DL
open PySem PySem.Spec L2
theorem hu_N {i j : Nat} (h : j ≠ i) : ∀ d ρ ρ', qN j d ρ = some ρ' → ρ'[i]? = ρ[i]? := fun d ρ ρ' e => by
  cases e
  exact List.getElem?_set_ne h
theorem hu_nil {i : Nat} : ∀ ds ρ ρ', qNil ds ρ = some ρ' → ρ'[i]? = ρ[i]? := fun ds ρ ρ' e => by
  cases ds with
  | nil => cases e; rfl
  | cons => cases e
theorem hu_cons {i : Nat} {g : D → Rho → Option Rho} {h : List D → Rho → Option Rho} (h1 : ∀ d ρ ρ', g d ρ = some ρ' → ρ'[i]? = ρ[i]?) (h2 : ∀ ds ρ ρ', h ds ρ = some ρ' → ρ'[i]? = ρ[i]?) : ∀ ds ρ ρ', qCons g h ds ρ = some ρ' → ρ'[i]? = ρ[i]? := fun ds ρ ρ' e => by
  cases ds with
  | nil => cases e
  | cons d ds =>
    obtain ⟨ρ1, e1, e2⟩ := Option.bind_eq_some_iff.mp e
    rw [h2 _ _ _ e2, h1 _ _ _ e1]
theorem hu_tup {i : Nat} {g : List D → Rho → Option Rho} (h : ∀ ds ρ ρ', g ds ρ = some ρ' → ρ'[i]? = ρ[i]?) : ∀ d ρ ρ', qTup g d ρ = some ρ' → ρ'[i]? = ρ[i]? := fun d ρ ρ' e => by
  cases d with
  | tuple ds => exact h ds ρ ρ' e
  | _ => cases e
end DL
/-! DLy: sets out of lists of ints, sorted; list(range(..)); texts cut and in capitals; truths among ints. -/
namespace DL
open PySem PySem.Spec L2 PyProof.Rows
/-! ### set(xs) of a list of ints -/
abbrev nwSet (w : World) : Obj := { cls := .type "set", dict := none, data := .set #[] 0 (.fresh 0 0 (!w.params.followText "set-order")) }
section
variable {P : Program} {w : World} {A : Around} {E : Value → Shared → Prop} {s : Shared}
set_option maxHeartbeats 6400000 in
theorem call_set_lstI {l : Addr} {items : Array Value} (ns : List Int) {Q : Value → Shared → Prop} (hh : A.handled = none) (hl : s.heap.IsList l items)
    (hit : IntsAre items.toList ns) (hb : ns.length + 1 < scanBound)
    (h : ∀ (h' : Heap) (tk c : Nat), SetR w h' s.heap.objs.size (fun j => decide (j ∈ ns)) c → c ≤ ns.length →
      (∀ b o, s.heap.get? b = some o → h'.get? b = some o) → Q (.ref s.heap.objs.size) { s with heap := h', toks := tk }) :
    wpAny (model P w) A (call (.type "set") [.ref l]) Q E s := by
  have hisz : items.size = ns.length := by rw [← IntsAre.length hit, Array.length_toList]
  obtain ⟨c, tl, hmro⟩ := PySem.F.called_set.mro
  have hmade := PySem.F.called_set.made
  have hsub := PySem.F.called_set.sub
  refine wpAny_call (codeAny_of_tree ?_)
  show wpAny _ _ (callAny (.type "set") _) _ _ _
  refine wpAny_pure ⟨Code.quiet_builtin _ (by decide +kernel), codeAny_builtin PySem.F.entry_type_call ?_⟩
  rw [Around.under_plain (weight_type_call_type "set" [.ref l] []) rfl]
  have h1 := PySem.F.called_set.notType
  have h2 := PySem.F.called_set.canCreate
  have hct := PySem.F.typeCall_set_1 (.ref l)
  repeat (any_goals (first | assumption | wp_step))
  refine codeAny_mono (code_set_led1 (.ref l) (E := E) (Q₁ := fun ob s₁ => ob = .ref s.heap.objs.size ∧ s₁ = { s with heap := s.heap.push (nwSet w) }) ⟨rfl, rfl⟩) fun r s₁ hr => ?_
  cases r with
  | error e => exact hr
  | ok fl =>
    cases fl with
    | ret ob =>
      obtain ⟨rfl, rfl⟩ := hr
      have hS : (s.heap.push (nwSet w)).get? s.heap.objs.size = some (nwSet w) := Heap.get?_push_size _ rfl
      have hT : Shared.TypeIs { s with heap := s.heap.push (nwSet w) } (.ref s.heap.objs.size) "set" := ⟨_, hS, rfl⟩
      have hli := PySem.F.called_set.init.lookup
      have hbi := PySem.F.called_set.init.bind (.ref s.heap.objs.size)
      repeat (any_goals (first | assumption | wp_step))
      refine codeAny_mono (codeAny_call_builtin (R := wants (fun r s₂ => r = .none ∧ ∃ h' tk c, s₂ = { s with heap := h', toks := tk } ∧
        SetR w h' s.heap.objs.size (fun j => decide (j ∈ ns)) c ∧ c ≤ ns.length ∧ (∀ b o, s.heap.get? b = some o → h'.get? b = some o)) E)
        PySem.F.called_set.init.plain PySem.F.entry_set_init (check_set_init_1 hT ?_)) fun r₂ s₂ hr₂ => ?_
      · obtain ⟨ol, hol, hcl, nl, hdl⟩ := hl
        obtain ⟨ocls, odict, odata, oslots⟩ := ol
        simp only at hcl hdl
        subst hcl; subst hdl
        have hol' : (s.heap.push (nwSet w)).get? l = some ⟨.type "list", odict, .seq items nl, oslots⟩ := Heap.get?_push_of_some _ hol
        have hsls := PySem.F.sub_list_set
        have hslf := PySem.F.sub_list_frozenset
        have hne : (Value.type "list" == Value.type "dict") = false := by decide
        have hl1 : (s.heap.push (nwSet w)).IsList l items := ⟨_, hol', rfl, nl, rfl⟩
        unfold Builtin.«set.__init__» noKeywords Builtin.Frozenset.updateFrom
        generalize hPI : pyIter = PI
        wp_walk
        subst hPI
        refine wpAny_pyIter_list hl1 (wpAny_bind (wpAny_runValue ?_))
        have hlS : l < s.heap.objs.size := Heap.lt_size hol
        have hh3 : A.in1.in1.in1.handled = none := by simp [hh]
        have hz : (s.heap.push (nwSet w)).objs.size = s.heap.objs.size + 1 := Heap.size_push ..
        have hneI : l ≠ (s.heap.push (nwSet w)).objs.size := by rw [hz]; exact Nat.ne_of_lt (Nat.lt_succ_of_lt hlS)
        have hSf : s.heap.objs.size ∉ [(s.heap.push (nwSet w)).objs.size, l] := fun hm => by
          rcases List.mem_cons.mp hm with e | e
          · exact absurd (e.trans hz) (Nat.ne_of_lt (Nat.lt_succ_self _))
          · exact absurd (List.mem_singleton.mp e).symm (Nat.ne_of_lt hlS)
        have hval : ∀ (i : Nat) (v : Value), items[i]? = some v → ∃ k t, ns[i]? = some k ∧ v = .int k t := fun i v hv => by
          have hi : i < ns.length := by rw [← hisz]; exact (Array.getElem?_eq_some_iff.mp hv).1
          obtain ⟨t, e⟩ := IntsAre.int_at hit i v (by rw [Array.getElem?_toList]; exact hv)
          exact ⟨ns[i], t, List.getElem?_eq_getElem hi, by rw [e, List.getD_eq_getElem?_getD, List.getElem?_eq_getElem hi]; rfl⟩
        refine set_update_ints ((Walks.list hh3 _ l hneI items).toS) s.heap.objs.size hSf ns hisz hb hval (items.size - 0) 0 _ (by omega) (Nat.zero_le _)
          ⟨⟨_, Heap.get?_push_size _ rfl, rfl, rfl⟩, (hl1.push _)⟩ ⟨0, Nat.le_refl 0, setR_new_at (Heap.get?_push_of_some _ hS)⟩ fun s' c' hm hc' hS' => ?_
        obtain ⟨h', g2, d', tk', os'⟩ := s'
        obtain rfl : g2 = s.gens := hm.gens
        obtain rfl : d' = s.drawn := hm.drawn
        obtain rfl : os' = s.os := hm.os
        show wpAny _ _ _ _ _ _
        refine wpAny_pure ?_
        show wpAny _ _ (ret Value.none) _ _ _
        rw [hisz] at hc'
        refine wpAny_pure ⟨rfl, h', tk', c', rfl, hS', hc', fun b o e => hm.heap b o (fun hmem => ?_) (Heap.get?_push_of_some _ (Heap.get?_push_of_some _ e))⟩
        have hb0 : b < s.heap.objs.size := Heap.lt_size e
        rcases List.mem_cons.mp hmem with e1 | e1
        · exact absurd e1 (Nat.ne_of_lt hb0)
        · exact absurd ((List.mem_singleton.mp e1).trans hz) (Nat.ne_of_lt (Nat.lt_succ_of_lt hb0))
      · cases r₂ with
        | error e => exact hr₂
        | ok fl₂ =>
          cases fl₂ with
          | ret r =>
            obtain ⟨rfl, h', tk, c', rfl, hS', hc', hk'⟩ := hr₂
            repeat (any_goals (first | assumption | wp_step))
            exact h _ _ _ hS' hc' hk'
          | _ => exact hr₂.elim
    | _ => exact hr.elim
end
/-! sorted(set(xs)) -/
def tSortSetL (K : PySem.W.Frag) (ta : TE) : TE := fun σ H Q => ta σ H fun x H1 => ∃ (l : Addr) (ns : List Int), x = .ref l ∧ SqL K H1 l (ns.map V.int) ∧ ns.length < 64 ∧
  ∀ (out : List Int) (p : Addr), out.Pairwise (· < ·) → (∀ k : Int, k ∈ out ↔ k ∈ ns) → H1 p = none → Q (.ref p) (upd H1 p (.lst (out.map V.int)))
theorem pe_sortSetL {X : Cx} {K : PySem.W.Frag} {a : Expr} {ta : TE} {p p2 q pos : Pos} (hK : X.K = K) (hc : X.calm = true) (hg : Gl X "sorted") (hm : X.mg "sorted" = none) (hg2 : Gl X "set") (hm2 : X.mg "set" = none) (ha : PE X a ta)
    (hb : bootBuiltins "sorted" = some (.builtin "sorted")) (na : starEach [a] X.env = (false, eval a X.env) :: starEach [] X.env := by rfl) : PE X (.Call (.Name "sorted" p) [.Call (.Name "set" p2) [a] [] q] [] pos) (tSortSetL K ta) := by
  subst hK
  refine ⟨fun pins s σ H Q I h => ?_⟩
  refine Call_ (ld_blt I hg hm hb ?_)
  refine callWith_builtin1 (args_cons ?_ rfl) rfl rfl
  refine Call_ (ld_blt I hg2 hm2 boot_set ?_)
  refine callWith_type1 (args_cons (thn (ha.run pins s σ H _ I h) fun v s1 ⟨x, H1, I1, r1, q1⟩ => args_nil ?_) na) na rfl
  obtain ⟨l, ns, rfl, hq, h64, q1⟩ := q1
  cases r1
  obtain ⟨its, rv, pt, hz⟩ := I1.list hq
  have hi : IntsAre its.toArray.toList ns := ints_of_vals rv
  have hd := I1.ok.hd hc
  refine call_set_lstI ns hd (show s1.heap.IsList l its.toArray from pt.isList) hi (by unfold scanBound; omega) fun h' tk c R1 hcn k => ?_
  refine args_nil ?_
  refine sorted_set (s := { s1 with heap := h', toks := tk }) R1 hd (by omega) fun s' p' out c' ns' k' g o hp hg' hi' hs hm' hl => ?_
  have hlen : (ns'.map V.int).length ≤ sizeLine := by rw [List.length_map, hl, sizeLine_eq]; omega
  have hlt : s1.heap.objs.size < h'.objs.size := R1.lt
  have hp1 : s1.heap.objs.size ≤ p' := Nat.le_trans (Nat.le_of_lt hlt) hp
  have kall : ∀ b u, s1.heap.get? b = some u → s'.heap.get? b = some u := fun b u e => k' b u (k b u e)
  have hn : H1 p' = none := I1.hok.fresh hp1
  have J : L2.Inv X pins σ (upd H1 p' (.lst (ns'.map V.int))) { s1 with heap := s'.heap, gens := s'.gens, drawn := s'.drawn, toks := s'.toks } :=
    I1.call (ch := []) (Un.laid kall hp1 hn) (I1.hok.laid kall hp1 ⟨hlen, out.toList, c', vals_of_ints hi', hg'⟩) (by rw [g]; exact I1.bare) (fun _ z => nomatch z)
  have e : s' = { s1 with heap := s'.heap, gens := s'.gens, drawn := s'.drawn, toks := s'.toks } := by
    cases s'
    cases s1
    cases o
    rfl
  rw [e]
  exact ⟨.ref p', _, J, rfl, q1 ns' p' hs (fun k => by rw [hm' k, decide_eq_true_eq]) hn⟩
def sSortSetL (a : SE) : SL := fun ρ c => (a ρ c).bind fun p => match p.1 with
  | .list xs => (intsD xs).bind fun ns => if ns.length < 64 then some ((sortU ns).map PyData.int, p.2) else none
  | _ => none
section
variable {K : PySem.W.Frag} {X : Cx}
theorem imp_sortSetL {te : TE} {a : SE} (ha : ImpE K te a) : ImpL K (tSortSetL K te) (sSortSetL a) := fun ad B σ H ρ c ds c' Q R h q => by
  obtain ⟨⟨x, c1⟩, h1, h⟩ := Option.bind_eq_some_iff.mp h
  cases x with
  | list xs =>
    obtain ⟨ns, e1, e2⟩ := Option.bind_eq_some_iff.mp (show ((intsD xs).bind fun ns => if ns.length < 64 then some ((sortU ns).map PyData.int, c1) else none) = some (ds, c') from h)
    split at e2
    · rename_i hl
      cases e2
      refine ha ad B σ H ρ c _ _ _ R h1 fun v B1 H1 f1 d1 => ?_
      obtain ⟨l, vs, rfl, g1, g2⟩ := dp_list d1
      refine ⟨l, ns, rfl, ?_, hl, fun out p s1 s2 np => ?_⟩
      · rw [← ints_ok g2 e1]; exact SqL.of (f1.bh _ _ g1)
      · have e : out = sortU ns := lt_unique s1 (sortU_lt ns) fun k => by rw [s2 k, mem_sortU]
        rw [e]
        exact q p _ B1 _ H1 f1 np rfl (dpAll_ints _)
    · cases e2
  | _ => cases h
/-! ### list(range(..)) -/
def sRgL1 (a : SE) : SL := fun ρ c => (a ρ c).bind fun p => match p.1 with
  | .int j => if okR j = true then some (rngL 0 j.toNat, p.2) else none
  | _ => none
def sRgL2 (a b : SE) : SL := fun ρ c => (a ρ c).bind fun p => (b ρ p.2).bind fun q => match p.1, q.1 with
  | .int i, .int j => if okR i = true ∧ okR j = true then some (rngL i (j - i).toNat, q.2) else none
  | _, _ => none
theorem dpAll_rgV {B : Hp} (a b : Int) : DpAll K B (rgV a b) (rngL a (b - a).toNat) := by
  unfold rgV rngL
  generalize List.range (b - a).toNat = l
  induction l with
  | nil => exact .nil
  | cons x l ih => exact .cons (.int _) ih
theorem rgOk_of {a b : Int} (h1 : okR a = true) (h2 : okR b = true) : RgOk a b := by
  have e1 : a.natAbs ≤ 1000000 := of_decide_eq_true h1
  have e2 : b.natAbs ≤ 1000000 := of_decide_eq_true h2
  refine ⟨by omega, by omega, by omega, by omega, by omega⟩
theorem imp_rgL1 {t : TE} {a : SE} (h : ImpE K t a) : ImpL K (tLstRg (tRg1 t)) (sRgL1 a) := fun ad B σ H ρ c ds c' Q R e q => by
  obtain ⟨⟨x, c1⟩, e1, e2⟩ := Option.bind_eq_some_iff.mp e
  cases x with
  | int j =>
    have e2 : (if okR j = true then some (rngL 0 j.toNat, c1) else none) = some (ds, c') := e2
    split at e2
    · rename_i hj
      cases e2
      refine h ad B σ H ρ c _ _ _ R e1 fun v B1 H1 x dv => ?_
      refine ⟨j, dp_int dv, rgOk_of rfl hj, fun p np => ?_⟩
      have := dpAll_rgV (K := K) (B := B1) 0 j
      rw [Int.sub_zero] at this
      exact q p _ B1 _ H1 x np rfl this
    · cases e2
  | _ => cases e2
theorem imp_rgL2 {t u : TE} {a b : SE} (h : ImpE K t a) (h2 : ImpE K u b) : ImpL K (tLstRg (tRg2 t u)) (sRgL2 a b) := fun ad B σ H ρ c ds c' Q R e q => by
  obtain ⟨⟨x, c1⟩, e1, e2⟩ := Option.bind_eq_some_iff.mp e
  obtain ⟨⟨y, c2⟩, e3, e4⟩ := Option.bind_eq_some_iff.mp e2
  cases x with
  | int i =>
    cases y with
    | int j =>
      have e4 : (if okR i = true ∧ okR j = true then some (rngL i (j - i).toNat, c2) else none) = some (ds, c') := e4
      split at e4
      · rename_i hj
        cases e4
        refine h ad B σ H ρ c _ _ _ R e1 fun v B1 H1 x dv => ?_
        refine h2 ad B1 σ H1 ρ c1 _ _ _ (R.fw x) e3 fun u B2 H2 y du => ?_
        exact ⟨i, j, dp_int dv, dp_int du, rgOk_of hj.1 hj.2, fun p np => q p _ B2 _ H2 (R.trans x y) np rfl (dpAll_rgV i j)⟩
      · cases e4
    | _ => cases e4
  | _ => cases e4
/-! ### texts -/
def slS : D → Option Int → Option Int → Option D
  | .str z, lo, hi => if few z.length = true then some (.str (cutS z lo hi)) else none
  | _, _, _ => none
theorem d_slS : SlD K rSlS slS := fun B H x d z lo hi Q s hx h q => by
  cases hx with
  | str w =>
    have h : (if few w.length = true then some (PyData.str (cutS w lo hi)) else none) = some z := h
    split at h
    · rename_i hw
      cases h
      exact ⟨w, rfl, few_line hw, q _ B H (Grow.refl s) (.str _)⟩
    · cases h
  | _ => cases h
def sUpper (a : SE) : SE := fun ρ c => (a ρ c).bind fun p => match p.1 with
  | .str z => if few z.length = true then some (.str (Txt.upper z), p.2) else none
  | _ => none
theorem imp_upper {t : TE} {a : SE} (h : ImpE K t a) : ImpE K (tM0 (fun x xs H Q => ∃ a, x = .str a ∧ xs = [] ∧ a.length ≤ 5592405 ∧ Q (.str (Txt.upper a)) H) t) (sUpper a) := fun ad B σ H ρ c d c' Q R e q => by
  obtain ⟨⟨x, c1⟩, e1, e2⟩ := Option.bind_eq_some_iff.mp e
  cases x with
  | str z =>
    have e2 : (if few z.length = true then some (PyData.str (Txt.upper z), c1) else none) = some (d, c') := e2
    split at e2
    · rename_i hz
      cases e2
      refine h ad B σ H ρ c _ _ _ R e1 fun v B1 H1 x dv => ?_
      rw [dp_str dv]
      exact ⟨⟨z, rfl⟩, z, rfl, rfl, Nat.le_trans (few_ok hz) (by decide), q _ B1 H1 x (.str _)⟩
    · cases e2
  | _ => cases e2
/-! ### truths among ints -/
theorem op_addB : OpR X (binaryOp .Add) (fun x y H Q => ∃ k j, x = .bl k ∧ y = .int j ∧ Q (.int (b2i k + j)) H) := by
  intro pins s σ H x y v u Q I rx ry h
  obtain ⟨k, j, rfl, rfl, q⟩ := h
  obtain ⟨t, rfl⟩ := ry
  cases rx
  exact PySem.IntBool.add_bool_int ⟨.int (b2i k + j), H, I.tok _, ⟨_, rfl⟩, q⟩
theorem op_subB : OpR X (binaryOp .Sub) (fun x y H Q => ∃ k j, x = .bl k ∧ y = .int j ∧ Q (.int (b2i k - j)) H) := by
  intro pins s σ H x y v u Q I rx ry h
  obtain ⟨k, j, rfl, rfl, q⟩ := h
  obtain ⟨t, rfl⟩ := ry
  cases rx
  exact PySem.IntBool.sub_bool_int ⟨.int (b2i k - j), H, I.tok _, ⟨_, rfl⟩, q⟩
theorem op_subIB : OpR X (binaryOp .Sub) (fun x y H Q => ∃ j k, x = .int j ∧ y = .bl k ∧ Q (.int (j - b2i k)) H) := by
  intro pins s σ H x y v u Q I rx ry h
  obtain ⟨j, k, rfl, rfl, q⟩ := h
  obtain ⟨t, rfl⟩ := rx
  cases ry
  exact PySem.IntBool.sub_int_bool ⟨.int (j - b2i k), H, I.tok _, ⟨_, rfl⟩, q⟩
theorem op_mulIB : OpR X (binaryOp .Mult) (fun x y H Q => ∃ j k, x = .int j ∧ y = .bl k ∧ Q (.int (j * b2i k)) H) := by
  intro pins s σ H x y v u Q I rx ry h
  obtain ⟨j, k, rfl, rfl, q⟩ := h
  obtain ⟨t, rfl⟩ := rx
  cases ry
  exact PySem.IntBool.mul_int_bool ⟨.int (j * b2i k), H, I.tok _, ⟨_, rfl⟩, q⟩
abbrev rAddN : R2 := fun x y H Q => (rI0 fun i j => .int (i + j)) x y H Q ∨ ∃ k j, x = .bl k ∧ y = .int j ∧ Q (.int (b2i k + j)) H
abbrev rSubN : R2 := fun x y H Q => (rI0 fun i j => .int (i - j)) x y H Q ∨ ((∃ k j, x = .bl k ∧ y = .int j ∧ Q (.int (b2i k - j)) H) ∨ ∃ j k, x = .int j ∧ y = .bl k ∧ Q (.int (j - b2i k)) H)
abbrev rMulN : R2 := fun x y H Q => (rI CMul fun i j => .int (i * j)) x y H Q ∨ ∃ j k, x = .int j ∧ y = .bl k ∧ Q (.int (j * b2i k)) H
theorem op_addN : OpR X (binaryOp .Add) rAddN := op_add.or op_addB
theorem op_subN : OpR X (binaryOp .Sub) rSubN := op_sub.or (op_subB.or op_subIB)
theorem op_mulN : OpR X (binaryOp .Mult) rMulN := op_mul.or op_mulIB
def numN : D → Option Int
  | .int a => some a
  | .bool b => some (b2i b)
  | _ => none
def addN : D → D → Option D
  | .int a, .int b => some (.int (a + b))
  | .bool a, .int b => some (.int (b2i a + b))
  | _, _ => none
def subN : D → D → Option D
  | .int a, .int b => some (.int (a - b))
  | .bool a, .int b => some (.int (b2i a - b))
  | .int a, .bool b => some (.int (a - b2i b))
  | _, _ => none
def mulN : D → D → Option D
  | .int a, .int b => if midI a = true then some (.int (a * b)) else none
  | .int a, .bool b => some (.int (a * b2i b))
  | _, _ => none
theorem d_addN : OpD K rAddN addN := fun B H x y d e z Q s hx hy h q => by
  cases hx with
  | int a =>
    cases hy with
    | int b => cases h; exact .inl ⟨a, b, rfl, rfl, q _ B H (Grow.refl s) (.int _)⟩
    | _ => cases h
  | bl a =>
    cases hy with
    | int b => cases h; exact .inr ⟨a, b, rfl, rfl, q _ B H (Grow.refl s) (.int _)⟩
    | _ => cases h
  | _ => cases h
theorem d_subN : OpD K rSubN subN := fun B H x y d e z Q s hx hy h q => by
  cases hx with
  | int a =>
    cases hy with
    | int b => cases h; exact .inl ⟨a, b, rfl, rfl, q _ B H (Grow.refl s) (.int _)⟩
    | bl b => cases h; exact .inr (.inr ⟨a, b, rfl, rfl, q _ B H (Grow.refl s) (.int _)⟩)
    | _ => cases h
  | bl a =>
    cases hy with
    | int b => cases h; exact .inr (.inl ⟨a, b, rfl, rfl, q _ B H (Grow.refl s) (.int _)⟩)
    | _ => cases h
  | _ => cases h
theorem d_mulN : OpD K rMulN mulN := fun B H x y d e z Q s hx hy h q => by
  cases hx with
  | int a =>
    cases hy with
    | int b =>
      have h : (if midI a = true then some (PyData.int (a * b)) else none) = some z := h
      split at h
      · rename_i hm
        cases h
        exact .inl ⟨a, b, rfl, rfl, .inl (midI_to hm), q _ B H (Grow.refl s) (.int _)⟩
      · cases h
    | bl b => cases h; exact .inr ⟨a, b, rfl, rfl, q _ B H (Grow.refl s) (.int _)⟩
    | _ => cases h
  | _ => cases h
/-! ### a def that calls itself: where nothing is promised -/
theorem okNone {P : Program} {w : World} {mg : Str → Option Value} {base : Heap} {CX : CXT} {k : Nat} {f : Addr} {fd : FuncData} {ps : List Str} : FnOk P w K mg base CX k f fd ps (spD K fun _ _ => none) :=
  ⟨fun vs H Q E h => (by obtain ⟨_, _, _, _, _, _, _, _, _, _, _, _, e, _⟩ := h; cases e), fun A outer s H args us vs Q E hr he hb hv h => (by obtain ⟨_, _, _, _, _, _, _, _, _, _, _, _, e, _⟩ := h; cases e)⟩
end
end DL
/-! DLz: is True, is not True. -/
namespace DL
open PySem PySem.Spec L2
section
variable {K : PySem.W.Frag}
def isBD : D → D → Option D
  | .bool a, .bool b => some (.bool (decide (a = b)))
  | _, _ => none
def notBD : D → D → Option D
  | .bool a, .bool b => some (.bool (!decide (a = b)))
  | _, _ => none
theorem d_isB : OpD K rIsB isBD := fun B H x y d e z Q s hx hy h q => by
  cases hx with
  | bl a =>
    cases hy with
    | bl b => cases h; exact ⟨a, b, rfl, rfl, q _ B H (Grow.refl s) (.bl _)⟩
    | _ => cases h
  | _ => cases h
theorem d_notB : OpD K rNotB notBD := fun B H x y d e z Q s hx hy h q => by
  cases hx with
  | bl a =>
    cases hy with
    | bl b => cases h; exact ⟨a, b, rfl, rfl, q _ B H (Grow.refl s) (.bl _)⟩
    | _ => cases h
  | _ => cases h
end
end DL
namespace DL
open PySem PySem.Spec L2
section
variable {K : PySem.W.Frag} {X : Cx}
theorem call_isiK (h : X.K = K) : CallR X (.builtin "isinstance") (rIsi K) := by subst h; exact call_isi
theorem call_isiTK (h : X.K = K) : CallR X (.builtin "isinstance") (rIsiT K) := by subst h; exact call_isiT
end
end DL
/-! DLv: pop(k), insert, x[a:b] = .., of a list of one's own. -/
namespace DL
open PySem PySem.Spec L2 PyProof.Rows
/-! ### x[a:b] = y, b behind the end too -/
section
variable {prog : Program} {w : World} {A : Around} {E : Value → Shared → Prop} {s : Shared}
theorem bounds_cut {a c n : Nat} (hac : a ≤ c) (han : a ≤ n) : sliceBounds (some (a : Int)) (some (c : Int)) none n = ((a : Int), ((min c n : Nat) : Int), 1) := by
  simp only [sliceBounds, Option.getD_none]
  rw [if_neg (show ¬ ((a : Int) < 0) by omega), if_neg (show ¬ ((c : Int) < 0) by omega)]
  simp only [show (1 : Int) > 0 by decide, if_true]
  congr 1
  · omega
  · congr 1; omega
set_option maxRecDepth 100000 in
theorem setItem_cut {l b sl : Addr} {items new : Array Value} {n n2 : Nat} {vl vu : Value} {a c : Nat} {Q : Unit → Shared → Prop}
    (e : s.heap.get? l = some { cls := .type "list", data := .seq items n }) (e2 : s.heap.get? b = some { cls := .type "list", data := .seq new n2 })
    (hne : l ≠ b) (hs : s.heap.IsSliceOf sl vl vu .none) (pl : IsPart vl (some (a : Int)))
    (pu : IsPart vu (some (c : Int))) (hac : a ≤ c) (han : a ≤ items.size) (hsz : items.size + new.size ≤ sizeLine)
    (h : Q () { s with heap := s.heap.update l (Obj.mapSeq fun xs => xs.extract 0 a ++ new ++ xs.extract (min c items.size) xs.size) }) :
    wpAny (model prog w) A (setItem (.ref l) (.ref sl) (.ref b)) Q E s := by
  have hl : s.heap.IsList l items := PySem.IsL.isList e
  have hb : s.heap.IsList b new := PySem.IsL.isList e2
  obtain ⟨os, hos, hcs, hds⟩ := id hs
  have tS : s.TypeIs (.ref sl) "slice" := ⟨os, hos, hcs⟩
  have st0 : ¬ ((rawPart none == rawInt 0) = true) := Bool.false_ne_true
  have two : Builtin.List.listSameRef (.ref l) (.ref b) = false := by
    unfold Builtin.List.listSameRef; exact beq_eq_false_iff_ne.mpr hne
  have mx : (max (a : Int) ((min c items.size : Nat) : Int)).toNat = min c items.size := by omega
  have long : ((fun xs : Array Value => xs.extract 0 a ++ new ++ xs.extract (min c items.size) xs.size) items).size ≤ sizeLine + 1 := by
    simp only [Array.size_append, Array.size_extract]; omega
  unfold setItem
  try with_reducible refine wpAny_holding ?_
  first | refine wpAny_bind (wpAny_pure ?_) | skip
  refine wpAny_bind (wpAny_sequenceKey hl.typeIs (by decide) ?_)
  refine wpAny_bind (wpAny_callSpecial?_slot (name := Str.ofString "__setitem__") hl.typeIs slot_list_setitem (wpAny_call_entry slot_list_setitem hl.typeIs entry_list_setitem ?_ (args_list_setitem _ _ _)))
  show wpAny _ _ (Builtin.List.listSubscript? (.ref sl) >>= _) _ _ s
  refine wpAny_bind ?_
  unfold Builtin.List.listSubscript?
  refine wpAny_bind (wpAny_specialOf tS slice_no_index ?_)
  simp only [Option.isNone_none, if_true]
  refine wpAny_pure ?_
  show wpAny _ _ (typeOf (.ref sl) >>= _) _ _ s
  refine wpAny_bind (wpAny_typeOf tS ?_)
  first | rw [if_neg (by decide)] | refine PySem.W.KFB.if_not (by decide) ?_
  rw [listSliceParts_eq]
  refine wpAny_bind (wpAny_bind (wpAny_field hos hds (x := .none) rfl (wpAny_bind (wpAny_listPart .none ?_))))
  rw [if_neg st0]
  refine wpAny_bind (wpAny_field hos hds (x := vl) rfl (wpAny_bind (wpAny_listPart pl (wpAny_bind (wpAny_field hos hds (x := vu) rfl (wpAny_bind (wpAny_listPart pu (wpAny_pure ?_))))))))
  first | simp only [two, Bool.false_eq_true, if_false] | refine PySem.W.KFB.if_not two ?_ | (dsimp only; rw [if_neg (by rw [two]; exact Bool.false_ne_true)])
  refine wpAny_bind (m := Builtin.List.listAllItems (.ref b) "must assign iterable to extended slice") ?_
  unfold Builtin.List.listAllItems
  refine wpAny_bind (wpAny_typeOf hb.typeIs ?_)
  first | refine PySem.W.KFB.if_so (by decide) ?_ | rw [if_pos (by decide)] | simp only [beq_self_eq_true, Bool.true_or, if_true]
  unfold Builtin.List.listItems
  refine wpAny_bind (wpAny_seqItems e2 rfl (wpAny_pure (wpAny_bind (wpAny_bind (wpAny_seqItems e rfl (wpAny_pure ?_))))))
  refine wpAny_bind (wpAny_of_eq ((sliceIndices_raw (some (a : Int)) (some (c : Int)) none items.size (by simp)).trans (congrArg (pure : Int × Int × Int → Sem (Int × Int × Int)) (bounds_cut hac han))) ?_)
  show wpAny _ _ (if ((1 : Int) == 1) = true then _ else _) _ _ s
  rw [if_pos (by decide)]
  refine wpAny_bind (wpAny_rule ?_)
  first | simp only [notLongL hsz, Bool.false_eq_true, if_false] | refine PySem.W.KFB.if_not (notLongL hsz) ?_
  first | refine wpAny_bind (wpAny_pure ?_) | skip
  show wpAny _ _ (updateSeq l (fun xs => xs.extract 0 ((a : Int)).toNat ++ new ++ xs.extract (max (a : Int) ((min c items.size : Nat) : Int)).toNat xs.size) >>= _) _ _ s
  rw [mx, Int.toNat_natCast]
  refine wpAny_bind (wpAny_updateSeq (hz := Nat.le_trans (Nat.le_add_right _ _) hsz) (_hz' := long) e rfl ?_)
  refine wpAny_bind (wpAny_letGo ?_)
  first | exact wpAny_bind (wpAny_pure (wpAny_pure ⟨.none, rfl, wpAny_pure h⟩)) | exact wpAny_pure ⟨.none, rfl, wpAny_pure h⟩
end
section
variable {K : PySem.W.Frag} {X : Cx}
theorem set_cut {pins : List (Addr × Obj)} {s : Shared} {σ : L2.St} {H : Hp} {l b sl : Addr} {xs ys : List V} {a c : Int} {vl vu : Value} {Q : Unit → Shared → Prop} (I : L2.Inv X pins σ H s)
    (hH : H l = some (.lst xs)) (hB : H b = some (.lst ys)) (hne : l ≠ b) (hs : s.heap.IsSliceOf sl vl vu .none) (pl : IsPart vl (some a)) (pu : IsPart vu (some c))
    (h0 : 0 ≤ a) (hac : a ≤ c) (han : a ≤ xs.length) (hz : xs.length + ys.length ≤ sizeLine) (h : ∀ s', L2.Inv X pins σ (upd H l (.lst (xs.take a.toNat ++ ys ++ xs.drop c.toNat))) s' → Q () s') :
    wpAny (model X.prog X.w) X.A (setItem (.ref l) (.ref sl) (.ref b)) Q X.xe s := by
  obtain ⟨z, its, n, r, hl, e⟩ := I.lstM hH
  obtain ⟨z2, its2, n2, r2, hl2, e2⟩ := I.lstM hB
  obtain ⟨a', rfl⟩ := Int.eq_ofNat_of_zero_le h0
  obtain ⟨c', rfl⟩ := Int.eq_ofNat_of_zero_le (Int.le_trans h0 hac)
  simp only [Int.toNat_natCast] at h
  refine setItem_cut (a := a') (c := c') e e2 hne hs pl pu (by omega) (by rw [List.size_toArray]; omega) (by rw [List.size_toArray, List.size_toArray]; omega) (h _ ?_)
  refine I.lset (its' := its.take a' ++ its2 ++ its.drop (min c' its.length)) (t' := s.toks) hH e ?_ ?_ ?_
  · rw [List.size_toArray]; exact splice_eq its its2 a' (min c' its.length)
  · have er : xs.drop c' = xs.drop (min c' its.length) := by
      rcases Nat.le_total c' its.length with w | w
      · rw [Nat.min_eq_left w]
      · rw [Nat.min_eq_right w, List.drop_eq_nil_of_le (by omega), List.drop_eq_nil_of_le (by omega)]
    rw [er]
    exact Vals.append (Vals.append (r.take _) r2) (r.drop _)
  · rw [List.length_append, List.length_append, List.length_take, List.length_drop]
    omega
/-- the target x[lo:hi] -/
def gCut (to : TE) (tl th : TO) : TG := fun v σ H Q => to σ H fun o H1 => tl σ H1 fun lo H2 => th σ H2 fun hi H3 => ∃ (l b : Addr) (xs ys : List V) (a c : Int), o = .ref l ∧ v = .ref b ∧ lo = some a ∧ hi = some c ∧ H3 l = some (.lst xs) ∧ H3 b = some (.lst ys) ∧ l ≠ b ∧
  0 ≤ a ∧ a ≤ c ∧ a ≤ xs.length ∧ xs.length + ys.length ≤ sizeLine ∧ Q σ (upd H3 l (.lst (xs.take a.toNat ++ ys ++ xs.drop c.toNat)))
theorem pg_cut {o : Expr} {lo hi : Option Expr} {to : TE} {tl th : TO} {pos p2 : Pos} (ho : PE X o to) (hl : PO X lo tl) (hu : PO X hi th)
    (ha : ∀ v, assign (.Subscript o (.Slice lo hi none p2) pos) X.env v = (do
      let ov ← holding [v] (eval o X.env)
      let iv ← holding [v, ov] (eval (.Slice lo hi none p2) X.env)
      standAt pos
      holding [v, ov, iv] (setItem ov iv v)
      release [iv, v, ov] []) := by intro _; rfl) : PG X (.Subscript o (.Slice lo hi none p2) pos) (gCut to tl th) := by
  refine ⟨fun pins s σ H v u Q I r h => ?_⟩
  rw [ha]
  refine wpAny_bind (wpAny_holding (thn (ho.run pins s σ H _ I h) fun ov s1 ⟨x, H1, I1, r1, q1⟩ => ?_))
  refine wpAny_bind (wpAny_holding (wpAny_Slice (thn (hl.run pins s1 σ H1 _ I1 q1) fun vl s2 ⟨lo', H2, I2, pl, q2⟩ => thn (hu.run pins s2 σ H2 _ I2 q2) fun vu s3 ⟨hi', H3, I3, pu, q3⟩ => ?_)))
  refine thn (po_none.run pins s3 σ H3 (fun o H4 => o = none ∧ H4 = H3) I3 ⟨rfl, rfl⟩) fun vs s4 ⟨o4, H4, I4, ps, eo, e4⟩ => ?_
  subst eo e4
  obtain ⟨l, b, xs, ys, a, c, rfl, rfl, rfl, rfl, g1, g2, g3, g4, g5, g6, g7, q⟩ := q3
  cases r1
  cases r
  have I5 : L2.Inv X pins σ H4 { s4 with heap := s4.heap.push { cls := .type "slice", data := .fields #[vl, vu, vs] } } := I4.kept (t' := s4.toks) fun b ob q => Heap.get?_push_of_some _ q
  obtain rfl : vs = .none := by cases ps; rfl
  refine wpAny_bind (wpAny_standAt (wpAny_bind (wpAny_holding (set_cut I5 g1 g2 g3 (Heap.IsSliceOf.new _ vl vu .none) pl pu g4 g5 g6 g7 fun s' I6 => ?_))))
  exact wpAny_release ⟨σ, _, I6, q⟩
/-! on data -/
theorem dpAll_cutT {B : Hp} {ds es : List D} {vs us : List V} (a c : Nat) (h : DpAll K B vs ds) (h2 : DpAll K B us es) : DpAll K B (vs.take a ++ us ++ vs.drop c) (ds.take a ++ es ++ ds.drop c) :=
  dpAll_append (dpAll_append (dpAll_take a h) h2) (dpAll_drop c h)
/-- x[lo:hi] = a new list -/
def sSetCut (i : Nat) (l h : SO) (a : SL) : SS := fun ρ c => match ρ[i]? with
  | some (.ol xs) => (a ρ c).bind fun p => (l ρ p.2).bind fun q => (h ρ q.2).bind fun r => match q.1, r.1 with
    | some a, some b => if 0 ≤ a ∧ a ≤ b ∧ a ≤ xs.length ∧ few (xs.length + p.1.length) = true then some (.nx, ρ.set i (.ol (xs.take a.toNat ++ p.1 ++ xs.drop b.toNat)), r.2) else none
    | _, _ => none
  | _ => none
theorem imp_setCut {i : Nat} {t : TE} {tl th : TO} {l h : SO} {a : SL} (hl : ImpO K tl l) (hh : ImpO K th h) (ha : ImpL K t a) : ImpS K (tAsg t (gCut (tVar i) tl th)) (sSetCut i l h a) := fun ad B σ H ρ c r D R e q => by
  unfold sSetCut at e
  split at e
  · rename_i xs e0
    obtain ⟨⟨ys, c1⟩, e1, e2⟩ := Option.bind_eq_some_iff.mp e
    obtain ⟨⟨lo, c2⟩, e3, e4⟩ := Option.bind_eq_some_iff.mp e2
    obtain ⟨⟨hi, c3⟩, e5, e6⟩ := Option.bind_eq_some_iff.mp e4
    cases lo with
    | none => cases e6
    | some a =>
    cases hi with
    | none => cases e6
    | some b =>
    have e6 : (if 0 ≤ a ∧ a ≤ b ∧ a ≤ xs.length ∧ few (xs.length + ys.length) = true then some (Fl.nx, ρ.set i (.ol (xs.take a.toNat ++ ys ++ xs.drop b.toNat)), c3) else none) = some r := e6
    split at e6
    · rename_i hz
      obtain ⟨z1, z2, z3, z4⟩ := hz
      cases e6
      refine ha ad B σ H ρ c ys c1 _ R e1 fun w vs B1 Hf H0 x nw eH dv => ?_
      subst eH
      -- the new list is tracked, and nobody owns it
      have R1 := R.fw x
      have sm : Same H0 (upd H0 w (.lst vs)) := same_new nw
      have x1 : Fw ad c1 B1 H0 B1 (upd H0 w (.lst vs)) := ⟨Same.refl B1, R1.sub.trans sm, fun y o _ g => sm y o g, fun y g => sm y _ (R1.cell y g), fun y o g m => by rw [g] at m; cases m⟩
      have R2 := R1.fw x1
      have nwB : B1 w = none := R1.sub.free nw
      have nwa : ad ≠ some w := fun z => by rw [R1.cell w z] at nw; cases nw
      obtain ⟨p, us, g1, g2, g3, g4, g5⟩ := R2.slot i _ e0
      refine ⟨.ref p, g1, hl ad B1 σ _ ρ c1 (some a) c2 _ R2 e3 fun B3 H3 y3 => ?_⟩
      have R3 := R2.fw y3
      refine hh ad B3 σ H3 ρ c2 (some b) c3 _ R3 e5 fun B4 H4 y4 => ?_
      have R4 := R3.fw y4
      obtain ⟨p', us', k1, k2, k3, k4, k5⟩ := R4.slot i _ e0
      rw [g1] at k1
      cases k1
      have y34 := R2.trans y3 y4
      have hw4 : H4 w = some (.lst vs) := y34.keep w _ nwa upd_same
      have hpw : p ≠ w := fun z => by
        have hp0 : ∃ o, H0 p = some o := by
          obtain ⟨p2, us2, m1, m2, _⟩ := R1.slot i _ e0
          rw [g1] at m1
          cases m1
          exact ⟨_, m2⟩
        obtain ⟨o, ho⟩ := hp0
        rw [z, nw] at ho; cases ho
      have dvs : DpAll K B4 vs ys := dpAll_mono y34.bb _ _ dv
      have hl1 : us'.length = xs.length := dpAll_len k5
      have hl2 : vs.length = ys.length := dpAll_len dv
      obtain ⟨R5, y5⟩ := R4.chOl e0 rfl g1 (dpAll_cutT a.toNat b.toNat k5 dvs)
      have far : Fw ad c3 B H B4 H4 := R.trans (R.trans x x1) y34
      refine ⟨p, w, us', vs, a, b, rfl, rfl, rfl, rfl, k2, hw4, hpw, z1, z2, by omega, ?_, ?_⟩
      · have := few_ok z4
        rw [hl1, hl2, sizeLine_eq]; omega
      · exact q B4 σ _ R5 (FwS.trans R R4 (FwS.ofFw R far) y5)
    · cases e6
  · cases e
/-- x[lo:hi][::-1] of a list of one's own -/
def sRevCut (i : Nat) (l h : SO) : SL := fun ρ c => match ρ[i]? with
  | some (.ol xs) => (l ρ c).bind fun q => (h ρ q.2).bind fun r => some ((cutL xs q.1 r.1).reverse, r.2)
  | _ => none
theorem imp_revCut {i : Nat} {tl th : TO} {l h : SO} (hl : ImpO K tl l) (hh : ImpO K th h) : ImpL K (tRevL K (L2.tSl (rSlL K) (tVar i) tl th)) (sRevCut i l h) := fun ad B σ H ρ c ds c' Q R e q => by
  unfold sRevCut at e
  split at e
  · rename_i xs e0
    obtain ⟨⟨lo, c1⟩, e1, e2⟩ := Option.bind_eq_some_iff.mp e
    obtain ⟨⟨hi, c2⟩, e3, e4⟩ := Option.bind_eq_some_iff.mp e2
    cases e4
    obtain ⟨p, us, g1, g2, g3, g4, g5⟩ := R.slot i _ e0
    refine ⟨.ref p, g1, hl ad B σ H ρ c lo c1 _ R e1 fun B1 H1 x1 => ?_⟩
    have R1 := R.fw x1
    refine hh ad B1 σ H1 ρ c1 hi c2 _ R1 e3 fun B2 H2 x2 => ?_
    have R2 := R1.fw x2
    obtain ⟨p', us', k1, k2, k3, k4, k5⟩ := R2.slot i _ e0
    rw [g1] at k1
    cases k1
    refine ⟨p, us', rfl, SqL.of k2, fun y ny => ⟨y, _, rfl, SqL.of upd_same, fun z nz => ?_⟩⟩
    have sm : Same H2 (upd H2 y (.lst (cutV us' lo hi))) := same_new ny
    have x3 : Fw ad c2 B2 H2 B2 (upd H2 y (.lst (cutV us' lo hi))) := ⟨Same.refl B2, R2.sub.trans sm, fun b o _ g => sm b o g, fun b g => sm b _ (R2.cell b g), fun b o g m => by rw [g] at m; cases m⟩
    exact q z _ B2 _ _ (R.trans (R.trans x1 x2) x3) nz rfl (dpAll_rev (dpAll_cut lo hi k5))
  · cases e
/-! ### x.pop(k), x.insert(k, e) -/
def sPopAt (i : Nat) (k : SE) : SS := fun ρ c => match ρ[i]? with
  | some (.ol xs) => (k ρ c).bind fun q => match q.1 with
    | .int j => if 0 ≤ j ∧ j < xs.length ∧ few xs.length = true then some (.nx, ρ.set i (.ol (xs.eraseIdx j.toNat)), q.2) else none
    | _ => none
  | _ => none
theorem imp_popAt {i : Nat} {t : TE} {k : SE} (hk : ImpE K t k) : ImpS K (tDrop (tBM K "list" rPopAt (tVar i) (tCons t tNil))) (sPopAt i k) := fun ad B σ H ρ c r D R e q => by
  unfold sPopAt at e
  split at e
  · rename_i xs e0
    obtain ⟨⟨kd, c1⟩, e1, e2⟩ := Option.bind_eq_some_iff.mp e
    cases kd with
    | int j =>
      have e2 : (if 0 ≤ j ∧ j < xs.length ∧ few xs.length = true then some (Fl.nx, ρ.set i (.ol (xs.eraseIdx j.toNat)), c1) else none) = some r := e2
      split at e2
      · rename_i hj
        obtain ⟨j0, j1, j2⟩ := hj
        cases e2
        obtain ⟨p, vs, g1, g2, g3, g4, g5⟩ := R.slot i _ e0
        refine ⟨.ref p, g1, .inl ⟨rfl, _, SqL.of g2⟩, hk ad B σ H ρ c (.int j) c1 _ R e1 fun v B1 H1 x dv => ?_⟩
        have R1 := R.fw x
        rw [dp_int dv]
        have hp : H1 p = some (.lst vs) := x.keep p _ g4 g2
        have g5' := dpAll_mono x.bb _ _ g5
        have hl := dpAll_len g5
        have hm := few_ok j2
        have hlt : j.toNat < vs.length := by omega
        obtain ⟨R2, y⟩ := R1.chOl e0 rfl g1 (dpAll_erase j.toNat g5')
        refine ⟨p, vs, j, j.toNat, vs[j.toNat], rfl, rfl, hp, by omega, by omega, ?_, List.getElem?_eq_getElem hlt, ?_⟩
        · have : ixN vs.length j = some j.toNat := by unfold ixN; rw [if_pos j0, if_pos (by omega)]
          exact (ixN_seq this).1
        · exact q B1 σ _ R2 (FwS.trans R R1 (FwS.ofFw R x) y)
      · cases e2
    | _ => cases e2
  · cases e
abbrev rInsert : V → List V → Hp → VK → Prop := fun x vs H Q => ∃ (l : Addr) (xs : List V) (i : Int) (y : V), x = .ref l ∧ vs = [.int i, y] ∧ H l = some (.lst xs) ∧ xs.length < sizeLine ∧ 0 ≤ i ∧ i < 2 ^ 63 ∧
    Q .non (upd H l (.lst (xs.take i.toNat ++ [y] ++ xs.drop i.toNat)))
def sInsert (i : Nat) (k a : SE) : SS := fun ρ c => match ρ[i]? with
  | some (.ol xs) => (k ρ c).bind fun q => (a ρ q.2).bind fun p => match q.1 with
    | .int j => if 0 ≤ j ∧ j ≤ xs.length ∧ few xs.length = true then some (.nx, ρ.set i (.ol (xs.take j.toNat ++ [p.1] ++ xs.drop j.toNat)), p.2) else none
    | _ => none
  | _ => none
theorem imp_insert {i : Nat} {t u : TE} {k a : SE} (hk : ImpE K t k) (ha : ImpE K u a) : ImpS K (tDrop (tBM K "list" rInsert (tVar i) (tCons t (tCons u tNil)))) (sInsert i k a) := fun ad B σ H ρ c r D R e q => by
  unfold sInsert at e
  split at e
  · rename_i xs e0
    obtain ⟨⟨kd, c1⟩, e1, e2⟩ := Option.bind_eq_some_iff.mp e
    obtain ⟨⟨d, c2⟩, e3, e4⟩ := Option.bind_eq_some_iff.mp e2
    cases kd with
    | int j =>
      have e4 : (if 0 ≤ j ∧ j ≤ xs.length ∧ few xs.length = true then some (Fl.nx, ρ.set i (.ol (xs.take j.toNat ++ [d] ++ xs.drop j.toNat)), c2) else none) = some r := e4
      split at e4
      · rename_i hj
        obtain ⟨j0, j1, j2⟩ := hj
        cases e4
        obtain ⟨p, vs, g1, g2, g3, g4, g5⟩ := R.slot i _ e0
        refine ⟨.ref p, g1, .inl ⟨rfl, _, SqL.of g2⟩, hk ad B σ H ρ c (.int j) c1 _ R e1 fun v B1 H1 x dv => ?_⟩
        have R1 := R.fw x
        refine ha ad B1 σ H1 ρ c1 d c2 _ R1 e3 fun w B2 H2 y dw => ?_
        have R2 := R1.fw y
        have xy := R.trans x y
        rw [dp_int dv]
        have hp : H2 p = some (.lst vs) := xy.keep p _ g4 g2
        have g5' := dpAll_mono xy.bb _ _ g5
        have hl := dpAll_len g5
        have hm := few_ok j2
        obtain ⟨R3, z⟩ := R2.chOl e0 rfl g1 (dpAll_cutT j.toNat j.toNat g5' (.cons dw .nil))
        refine ⟨p, vs, j, w, rfl, rfl, hp, by rw [hl, sizeLine_eq]; omega, j0, by omega, ?_⟩
        exact q B2 σ _ R3 (FwS.trans R R2 (FwS.ofFw R xy) z)
      · cases e4
    | _ => cases e4
  · cases e
theorem sl_listK (h : X.K = K) : SlR X (rSlL K) := by subst h; exact sl_list
theorem pe_revLK {e : Expr} {te : TE} {k : Nat} {p1 p2 p3 pos : Pos} (h : X.K = K) (he : PE X e te) : PE X (.Subscript e (.Slice none none (some (.UnaryOp .USub (.Constant (.int 1) k p1) p2)) p3) pos) (tRevL K te) := by subst h; exact pe_revL he
end
end DL
/-! DLw: x or y, by truth. -/
namespace DL
open PySem PySem.Spec L2
section
variable {K : PySem.W.Frag} {X : Cx}
def sOrT (a b : SE) : SE := fun ρ c => (a ρ c).bind fun p => (truD p.1).bind fun k => if k = true then some p else b ρ p.2
theorem imp_orT {t u : TE} {a b : SE} (ha : ImpE K t a) (hb : ImpE K u b) : ImpE K (tOrT K t u) (sOrT a b) := fun ad B σ H ρ c d c' Q R e q => by
  obtain ⟨⟨x, c1⟩, e1, e2⟩ := Option.bind_eq_some_iff.mp e
  obtain ⟨k, e3, e4⟩ := Option.bind_eq_some_iff.mp e2
  refine ha ad B σ H ρ c x c1 _ R e1 fun v B1 H1 f1 dv => ?_
  refine ⟨k, truD_ok f1.bh dv e3, ?_⟩
  cases k with
  | true =>
    have e4 : some (x, c1) = some (d, c') := e4
    cases e4
    exact q v B1 H1 f1 dv
  | false =>
    have e4 : b ρ c1 = some (d, c') := e4
    exact hb ad B1 σ H1 ρ c1 d c' Q (R.fw f1) e4 fun w B2 H2 f2 dw => q w B2 H2 (R.trans f1 f2) dw
theorem pe_orTK {a b : Expr} {ta tb : TE} {pos : Pos} (h : X.K = K) (ha : PE X a ta) (hb : PE X b tb) : PE X (.BoolOp .Or [a, b] pos) (tOrT K ta tb) := by
  subst h
  exact pe_orT ha (pe_one hb)
end
end DL
/-! DE: how meanings reckon: lemmas for simp, and loops by the state at each turn. -/
namespace DL
open PySem PySem.Spec L2
section
variable {ρ ρ' ρ1 : Rho} {c c' c1 : Dr} {i j : Nat}
@[simp] theorem ev_sV : sV i ρ c = (match ρ[i]? with | some (.im d) => some (d, c) | _ => none) := Eq.trans rfl rfl
@[simp] theorem ev_sC {d : D} : sC d ρ c = some (d, c) := Eq.trans rfl rfl
@[simp] theorem ev_sOp {g : D → D → Option D} {a b : SE} : sOp g a b ρ c = (a ρ c).bind fun p => (b ρ p.2).bind fun q => (g p.1 q.1).bind fun z => some (z, q.2) := Eq.trans rfl rfl
@[simp] theorem ev_sUn {g : D → Option D} {a : SE} : sUn g a ρ c = (a ρ c).bind fun p => (g p.1).bind fun z => some (z, p.2) := Eq.trans rfl rfl
@[simp] theorem ev_sB {a : SE} : sB a ρ c = (a ρ c).bind fun p => match p.1 with | .bool b => some (b, p.2) | _ => none := Eq.trans rfl rfl
@[simp] theorem ev_sTr {a : SE} : sTr a ρ c = (a ρ c).bind fun p => (truD p.1).bind fun b => some (b, p.2) := Eq.trans rfl rfl
@[simp] theorem ev_sAnd {a b : SB} : sAnd a b ρ c = (a ρ c).bind fun p => if p.1 = true then b ρ p.2 else some (false, p.2) := Eq.trans rfl rfl
@[simp] theorem ev_sOr {a b : SB} : sOr a b ρ c = (a ρ c).bind fun p => if p.1 = true then some (true, p.2) else b ρ p.2 := Eq.trans rfl rfl
@[simp] theorem ev_sNot {a : SB} : sNot a ρ c = (a ρ c).bind fun p => some (!p.1, p.2) := Eq.trans rfl rfl
@[simp] theorem ev_sAndV {a b : SE} : sAndV a b ρ c = (sB a ρ c).bind fun p => if p.1 = true then b ρ p.2 else some (.bool false, p.2) := Eq.trans rfl rfl
@[simp] theorem ev_sOrV {a b : SE} : sOrV a b ρ c = (sB a ρ c).bind fun p => if p.1 = true then some (.bool true, p.2) else b ρ p.2 := Eq.trans rfl rfl
@[simp] theorem ev_sNotV {a : SE} : sNotV a ρ c = (sB a ρ c).bind fun p => some (.bool (!p.1), p.2) := Eq.trans rfl rfl
@[simp] theorem ev_sIfE {t : SB} {a b : SE} : sIfE t a b ρ c = (t ρ c).bind fun p => if p.1 = true then a ρ p.2 else b ρ p.2 := Eq.trans rfl rfl
@[simp] theorem ev_sChain {g g' : D → D → Option D} {a b e : SE} : sChain g g' a b e ρ c = (a ρ c).bind fun p => (b ρ p.2).bind fun q => (g p.1 q.1).bind fun z => match z with
  | .bool true => (e ρ q.2).bind fun w => (g' q.1 w.1).bind fun z' => some (z', w.2)
  | .bool false => some (.bool false, q.2)
  | _ => none := Eq.trans rfl rfl
@[simp] theorem ev_sNil : sNil ρ c = some ([], c) := Eq.trans rfl rfl
@[simp] theorem ev_sCons {a : SE} {b : SA} : sCons a b ρ c = (a ρ c).bind fun p => (b ρ p.2).bind fun q => some (p.1 :: q.1, q.2) := Eq.trans rfl rfl
@[simp] theorem ev_sTup {a : SA} : sTup a ρ c = (a ρ c).bind fun p => if few p.1.length = true then some (.tuple p.1, p.2) else none := Eq.trans rfl rfl
@[simp] theorem ev_sLst {a : SA} : sLst a ρ c = (a ρ c).bind fun p => if few p.1.length = true then some (.list p.1, p.2) else none := Eq.trans rfl rfl
@[simp] theorem ev_sCB {g : List D → Option D} {a : SA} : sCB g a ρ c = (a ρ c).bind fun p => (g p.1).bind fun z => some (z, p.2) := Eq.trans rfl rfl
@[simp] theorem ev_sNoP : sNoP ρ c = some (none, c) := Eq.trans rfl rfl
@[simp] theorem ev_sP {a : SE} : sP a ρ c = (a ρ c).bind fun p => match p.1 with | .int i => some (some i, p.2) | _ => none := Eq.trans rfl rfl
@[simp] theorem ev_sSl {g : D → Option Int → Option Int → Option D} {a : SE} {l h : SO} : sSl g a l h ρ c = (a ρ c).bind fun p => (l ρ p.2).bind fun q => (h ρ q.2).bind fun r => (g p.1 q.1 r.1).bind fun z => some (z, r.2) := Eq.trans rfl rfl
@[simp] theorem ev_qN {d : D} : qN i d ρ = some (ρ.set i (.im d)) := Eq.trans rfl rfl
@[simp] theorem ev_qTup {g : List D → Rho → Option Rho} {ds : List D} : qTup g (.tuple ds) ρ = g ds ρ := Eq.trans rfl rfl
@[simp] theorem ev_qCons {g : D → Rho → Option Rho} {h : List D → Rho → Option Rho} {d : D} {ds : List D} : qCons g h (d :: ds) ρ = (g d ρ).bind fun ρ' => h ds ρ' := Eq.trans rfl rfl
@[simp] theorem ev_qNil : qNil [] ρ = some ρ := Eq.trans rfl rfl
@[simp] theorem ev_sSeq {f g : SS} : sSeq f g ρ c = (f ρ c).bind fun r => match r with | (.nx, ρ1, c1) => g ρ1 c1 | r => some r := Eq.trans rfl rfl
@[simp] theorem ev_sNext : sNext ρ c = some (.nx, ρ, c) := Eq.trans rfl rfl
@[simp] theorem ev_sRet {a : SE} : sRet a ρ c = (a ρ c).bind fun p => some (.rt p.1, ρ, p.2) := Eq.trans rfl rfl
@[simp] theorem ev_sIfS {t : SB} {f g : SS} : sIfS t f g ρ c = (t ρ c).bind fun p => if p.1 = true then f ρ p.2 else g ρ p.2 := Eq.trans rfl rfl
@[simp] theorem ev_sAsg {a : SE} {g : D → Rho → Option Rho} : sAsg a g ρ c = (a ρ c).bind fun p => (g p.1 ρ).bind fun ρ' => some (.nx, ρ', p.2) := Eq.trans rfl rfl
@[simp] theorem ev_sAug {g : D → D → Option D} {a : SE} : sAug g i a ρ c = (match ρ[i]? with | some (.im d) => (a ρ c).bind fun p => (g d p.1).bind fun z => some (.nx, ρ.set i (.im z), p.2) | _ => none) := Eq.trans rfl rfl
@[simp] theorem ev_sOfL {f : SL} : sOfL f ρ c = (f ρ c).bind fun p => some (.list p.1, p.2) := Eq.trans rfl rfl
@[simp] theorem ev_sAsgL {f : SL} : sAsgL f i ρ c = (f ρ c).bind fun p => some (.nx, ρ.set i (.ol p.1), p.2) := Eq.trans rfl rfl
@[simp] theorem ev_sFrz {f : SS} : sFrz i f ρ c = (match ρ[i]? with | some (.ol ds) => f (ρ.set i (.im (.list ds))) c | _ => none) := Eq.trans rfl rfl
@[simp] theorem ev_sApp {a : SE} : sApp i a ρ c = (match ρ[i]? with | some (.ol xs) => (a ρ c).bind fun p => if few xs.length = true then some (.nx, ρ.set i (.ol (xs ++ [p.1])), p.2) else none | _ => none) := Eq.trans rfl rfl
@[simp] theorem ev_sIxO {k : SE} : sIxO i k ρ c = (match ρ[i]? with | some (.ol xs) => ((k ρ c).bind fun q => (match q.1 with | .int j => (atI xs j).bind fun x0 => some (x0, q.2) | _ => none)) | _ => none) := Eq.trans rfl rfl
@[simp] theorem ev_sSetI {k a : SE} : sSetI i k a ρ c = (match ρ[i]? with | some (.ol xs) => ((a ρ c).bind fun p => (k ρ p.2).bind fun q => (match q.1 with | .int j => (ixN xs.length j).bind fun m => some (.nx, ρ.set i (.ol (xs.set m p.1)), q.2) | _ => none)) | _ => none) := Eq.trans rfl rfl
@[simp] theorem ev_sFl {f : SE} : sFl i f ρ c = (match ρ[i]? with | some (.ol xs) => (f (ρ.set i (.im (.list xs))) c).bind fun p => if flatD p.1 = true then some p else none | _ => none) := Eq.trans rfl rfl
@[simp] theorem ev_sFlT {f : SB} : sFlT i f ρ c = (match ρ[i]? with | some (.ol xs) => f (ρ.set i (.im (.list xs))) c | _ => none) := Eq.trans rfl rfl
@[simp] theorem ev_sItL {a : SE} : sItL a ρ c = (a ρ c).bind fun p => match p.1 with | .list xs => some (xs, p.2) | _ => none := Eq.trans rfl rfl
@[simp] theorem ev_sItT {a : SE} : sItT a ρ c = (a ρ c).bind fun p => match p.1 with | .tuple xs => some (xs, p.2) | _ => none := Eq.trans rfl rfl
@[simp] theorem ev_sR1 {a : SA} : sR1 a ρ c = (a ρ c).bind fun p => match p.1 with | [.int j] => if okR j = true then some (rngL 0 j.toNat, p.2) else none | _ => none := Eq.trans rfl rfl
@[simp] theorem ev_sR2 {a : SA} : sR2 a ρ c = (a ρ c).bind fun p => match p.1 with | [.int i, .int j] => if okR i = true ∧ okR j = true then some (rngL i (j - i).toNat, p.2) else none | _ => none := Eq.trans rfl rfl
@[simp] theorem ev_sR3 {a : SA} : sR3 a ρ c = (a ρ c).bind fun p => match p.1 with | [.int i, .int j, .int e] => if okR3 i j e = true then some (stpL i e (Builtin.Range.rangeSize i j e).toNat, p.2) else none | _ => none := Eq.trans rfl rfl
@[simp] theorem ev_sEnum {a : SE} : sEnum a ρ c = (a ρ c).bind fun p => (seqD p.1).bind fun xs => some (enumL xs, p.2) := Eq.trans rfl rfl
@[simp] theorem ev_sZip {a b : SE} : sZip a b ρ c = (a ρ c).bind fun p => (b ρ p.2).bind fun q => (seqD p.1).bind fun xs => (seqD q.1).bind fun ys => some (zipL xs ys, q.2) := Eq.trans rfl rfl
@[simp] theorem ev_sYes : sYes ρ c = some (true, c) := Eq.trans rfl rfl
@[simp] theorem ev_sLc {f : SI} {g : D → Rho → Option Rho} {t : SB} {e : SE} {vs : List Nat} : sLc f g t e vs ρ c = (f ρ c).bind fun p => if few p.1.length = true then lcS g t e (wipeR ρ vs) p.1 p.2 else none := Eq.trans rfl rfl
@[simp] theorem ev_wipe0 : wipeR ρ [] = ρ := Eq.trans rfl rfl
@[simp] theorem ev_wipe1 {v : Nat} {vs : List Nat} : wipeR ρ (v :: vs) = (wipeR ρ vs).set v .un := Eq.trans rfl rfl
@[simp] theorem ev_unset0 : unset [] ρ = ρ := Eq.trans rfl rfl
@[simp] theorem ev_unset1 {v : Nat} {vs : List Nat} : unset (v :: vs) ρ = unset vs (ρ.set v .un) := Eq.trans rfl rfl
@[simp] theorem ev_sCall {F : List D → Option D} {a : SA} : sCall F a ρ c = (a ρ c).bind fun p => (F p.1).bind fun d => some (d, p.2) := Eq.trans rfl rfl
@[simp] theorem ev_sCallD {F : List D → Dr → Option (D × Dr)} {a : SA} : sCallD F i a ρ c = (match ρ[i]? with | some .dr => (a ρ c).bind fun p => F p.1 p.2 | _ => none) := Eq.trans rfl rfl
@[simp] theorem ev_sCallK {F : List D → Option D} {gV : List D → List D → List D} {a b : SA} : sCallK F gV a b ρ c = (a ρ c).bind fun p => (b ρ p.2).bind fun q => (F (gV p.1 q.1)).bind fun d => some (d, q.2) := Eq.trans rfl rfl
@[simp] theorem ev_sListOf {a : SA} : sListOf a ρ c = (a ρ c).bind fun p => match p.1 with | [.list xs] => some (xs, p.2) | [.tuple xs] => some (xs, p.2) | _ => none := Eq.trans rfl rfl
@[simp] theorem ev_sDispL {a : SA} : sDispL a ρ c = (a ρ c).bind fun p => if few p.1.length = true then some p else none := Eq.trans rfl rfl
@[simp] theorem ev_sRepL {a : SL} {b : SE} : sRepL a b ρ c = (a ρ c).bind fun p => (b ρ p.2).bind fun q => match q.1 with | .int k => if few p.1.length = true ∧ p.1.length * k.toNat ≤ 1000000 ∧ -1000000 ≤ k ∧ k ≤ 1000000 then some ((List.replicate k.toNat p.1).flatten, q.2) else none | _ => none := Eq.trans rfl rfl
@[simp] theorem ev_sDGet2 {k x : SE} : sDGet2 i k x ρ c = (dictAt ρ[i]?).bind fun kvs => (k ρ c).bind fun p => match p.1 with | .int j => (x ρ p.2).bind fun q => some ((kvLook kvs j).getD q.1, q.2) | _ => none := Eq.trans rfl rfl
@[simp] theorem ev_sIsi {k : Cl} {a : SE} : sIsi k a ρ c = (a ρ c).bind fun p => some (.bool (isB k p.1), p.2) := Eq.trans rfl rfl
@[simp] theorem ev_sIsi2 {k l : Cl} {a : SE} : sIsi2 k l a ρ c = (a ρ c).bind fun p => some (.bool (isB k p.1 || isB l p.1), p.2) := Eq.trans rfl rfl
@[simp] theorem ev_sSl3 {a : SE} {l h s : SO} : sSl3 a l h s ρ c = (a ρ c).bind fun p => (l ρ p.2).bind fun q => (h ρ q.2).bind fun r => (s ρ r.2).bind fun o => match p.1 with
  | .list xs => if o.1 = some 0 then none else if few (pickL xs q.1 r.1 o.1).length = true then some (.list (pickL xs q.1 r.1 o.1), o.2) else none
  | _ => none := Eq.trans rfl rfl
@[simp] theorem ev_sAvNil : sAvNil ρ c = some ([], c) := Eq.trans rfl rfl
@[simp] theorem ev_sAvP {a : SE} {b : SV} : sAvP a b ρ c = (a ρ c).bind fun p => (b ρ p.2).bind fun q => some (.pl p.1 :: q.1, q.2) := Eq.trans rfl rfl
@[simp] theorem ev_sAvF {a : SL} {b : SV} : sAvF a b ρ c = (a ρ c).bind fun p => (b ρ p.2).bind fun q => some (.fr p.1 :: q.1, q.2) := Eq.trans rfl rfl
@[simp] theorem ev_sMany {is : List Nat} {f : SV} : sMany is f ρ c = (f ρ c).bind fun p => if is.length = p.1.length then some (.nx, setAv is p.1 ρ, p.2) else none := Eq.trans rfl rfl
@[simp] theorem ev_setAv {a : AV} {as : List AV} {is : List Nat} : setAv (i :: is) (a :: as) ρ = setAv is as (ρ.set i (slOf a)) := Eq.trans rfl rfl
@[simp] theorem ev_setAv0 {as : List AV} : setAv [] as ρ = ρ := by cases as <;> rfl
@[simp] theorem ev_slP {d : D} : slOf (.pl d) = .im d := Eq.trans rfl rfl
@[simp] theorem ev_slF {ds : List D} : slOf (.fr ds) = .ol ds := Eq.trans rfl rfl
@[simp] theorem ev_sDrIx {k : SE} : sDrIx i k ρ c = (match ρ[i]? with | some .dr => ((k ρ c).bind fun q => (match q.1 with | .int j => if j = 0 then some (.int q.2.1, q.2) else if j = 1 then some (.int q.2.2, q.2) else none | _ => none)) | _ => none) := Eq.trans rfl rfl
@[simp] theorem ev_sDrSet {k a : SE} : sDrSet i k a ρ c = (match ρ[i]? with | some .dr => ((a ρ c).bind fun p => (k ρ p.2).bind fun q => (match q.1, p.1 with | .int j, .int x => if j = 0 then some (.nx, ρ, (x, q.2.2)) else if j = 1 then some (.nx, ρ, (q.2.1, x)) else none | _, _ => none)) | _ => none) := Eq.trans rfl rfl
@[simp] theorem ev_addII {a b : Int} : addD (.int a) (.int b) = some (.int (a + b)) := Eq.trans rfl rfl
@[simp] theorem ev_addTT {a b : List D} : addD (.tuple a) (.tuple b) = if few (a.length + b.length) = true then some (.tuple (a ++ b)) else none := Eq.trans rfl rfl
@[simp] theorem ev_addLL {a b : List D} : addD (.list a) (.list b) = if few (a.length + b.length) = true then some (.list (a ++ b)) else none := Eq.trans rfl rfl
@[simp] theorem ev_subII {a b : Int} : subD (.int a) (.int b) = some (.int (a - b)) := Eq.trans rfl rfl
@[simp] theorem ev_modII {a b : Int} : modD (.int a) (.int b) = if 0 < b then some (.int (a % b)) else none := Eq.trans rfl rfl
@[simp] theorem ev_negI {a : Int} : negD (.int a) = some (.int (-a)) := Eq.trans rfl rfl
@[simp] theorem ev_cmpII {p : Int → Int → Bool} {a b : Int} : cmpD p (.int a) (.int b) = some (.bool (p a b)) := Eq.trans rfl rfl
@[simp] theorem ev_ixL {xs : List D} {j : Int} : ixD (.list xs) (.int j) = atI xs j := Eq.trans rfl rfl
@[simp] theorem ev_ixT {xs : List D} {j : Int} : ixD (.tuple xs) (.int j) = atI xs j := Eq.trans rfl rfl
@[simp] theorem ev_slL {xs : List D} {l h : Option Int} : slD (.list xs) l h = some (.list (cutL xs l h)) := Eq.trans rfl rfl
@[simp] theorem ev_slT {xs : List D} {l h : Option Int} : slD (.tuple xs) l h = some (.tuple (cutL xs l h)) := Eq.trans rfl rfl
@[simp] theorem ev_lenL {xs : List D} : lenD [.list xs] = some (.int xs.length) := Eq.trans rfl rfl
@[simp] theorem ev_lenT {xs : List D} : lenD [.tuple xs] = some (.int xs.length) := Eq.trans rfl rfl
@[simp] theorem ev_tupL {xs : List D} : tupleD [.list xs] = some (.tuple xs) := Eq.trans rfl rfl
@[simp] theorem ev_tupT {xs : List D} : tupleD [.tuple xs] = some (.tuple xs) := Eq.trans rfl rfl
@[simp] theorem ev_minII {a b : Int} : minD [.int a, .int b] = some (.int (min a b)) := Eq.trans rfl rfl
@[simp] theorem ev_maxII {a b : Int} : maxD [.int a, .int b] = some (.int (max a b)) := Eq.trans rfl rfl
@[simp] theorem ev_minSS {a b : Int} : minS [.int a, .int b] = some (.int (min a b)) := Eq.trans rfl rfl
@[simp] theorem ev_maxSS {a b : Int} : maxS [.int a, .int b] = some (.int (max a b)) := Eq.trans rfl rfl
@[simp] theorem ev_revA {a : SE} : sRevA a ρ c = (a ρ c).bind fun p => (match p.1 with
  | .tuple xs => if few xs.length = true then some (.tuple xs.reverse, p.2) else none
  | _ => none) := Eq.trans rfl rfl
@[simp] theorem ev_int1B {b : Bool} : intD [.bool b] = some (.int (if b then 1 else 0)) := Eq.trans rfl rfl
@[simp] theorem ev_seqL {xs : List D} : seqD (.list xs) = some xs := Eq.trans rfl rfl
@[simp] theorem ev_seqT {xs : List D} : seqD (.tuple xs) = some xs := Eq.trans rfl rfl
@[simp] theorem ev_truB {b : Bool} : truD (.bool b) = some b := Eq.trans rfl rfl
@[simp] theorem ev_isN {d : D} : isND d .none = some (.bool (match d with | .none => true | _ => false)) := Eq.trans rfl rfl
end
/-! ### running -/
section
variable {ρ ρ' ρ1 ρ0 : Rho} {c c' c1 c0 : Dr} {f g h : SS} {r : Fl × Rho × Dr}
theorem seq_run (h1 : f ρ c = some (.nx, ρ1, c1)) (h2 : g ρ1 c1 = some r) : sSeq f g ρ c = some r := by unfold sSeq; rw [h1]; exact h2
theorem seq_rt {d : D} (h1 : f ρ c = some (.rt d, ρ1, c1)) : sSeq f g ρ c = some (.rt d, ρ1, c1) := by unfold sSeq; rw [h1]; rfl
theorem then_run {is : List Nat} (h1 : f ρ c = some (.nx, ρ1, c1)) (e : unset is ρ1 = ρ') : sThen is f ρ c = some (.nx, ρ', c1) := by unfold sThen; rw [h1, ← e]; rfl
theorem then_rt {is : List Nat} {d : D} (h1 : f ρ c = some (.rt d, ρ1, c1)) : sThen is f ρ c = some (.rt d, ρ1, c1) := by unfold sThen; rw [h1]; rfl
theorem frz_run {i : Nat} {ds : List D} (e : ρ[i]? = some (.ol ds)) (h1 : f (ρ.set i (.im (.list ds))) c = some r) : sFrz i f ρ c = some r := by unfold sFrz; rw [e]; exact h1
theorem ret_run {a : SE} {d : D} (h1 : a ρ c = some (d, c1)) : sRet a ρ c = some (.rt d, ρ, c1) := by unfold sRet; rw [h1]; rfl
theorem ifT {t : SB} (h0 : t ρ c = some (true, c1)) (h1 : f ρ c1 = some r) : sIfS t f g ρ c = some r := by unfold sIfS; rw [h0]; exact h1
theorem ifF {t : SB} (h0 : t ρ c = some (false, c1)) (h1 : g ρ c1 = some r) : sIfS t f g ρ c = some r := by unfold sIfS; rw [h0]; exact h1
/-- runs to a result of which P holds -/
def Runs (f : SS) (ρ : Rho) (c : Dr) (P : Fl × Rho × Dr → Prop) : Prop := ∃ r, f ρ c = some r ∧ P r
abbrev IsRt (d : D) : Fl × Rho × Dr → Prop := fun r => r.1 = .rt d
theorem bodyP_of {m n : Nat} {ds : List D} {d : D} (hm : ds.length = m) (h1 : Runs f (ds.map .im ++ List.replicate n .un) (0, 0) (IsRt d)) : bodyP m n f ds = some d := by
  obtain ⟨⟨fl, ρ, c⟩, e1, e2⟩ := h1
  obtain rfl : fl = .rt d := e2
  unfold bodyP; rw [if_pos hm, e1]; rfl
/-- a drawing def's result -/
theorem bodyD_of {m n : Nat} {ds : List D} {P : D → Dr → Prop} (hm : ds.length = m) (h1 : Runs f (.dr :: (ds.map .im ++ List.replicate n .un)) c fun r => ∃ d, r.1 = .rt d ∧ P d r.2.2) : ∃ d c', bodyD m n f ds c = some (d, c') ∧ P d c' := by
  obtain ⟨⟨fl, ρ, c'⟩, e1, d, e2, e3⟩ := h1
  obtain rfl : fl = .rt d := e2
  refine ⟨d, c', ?_, e3⟩
  unfold bodyD; rw [if_pos hm, e1]; rfl
section
variable {P : Fl × Rho × Dr → Prop}
theorem Runs.seq (h1 : f ρ c = some (.nx, ρ1, c1)) (h2 : Runs g ρ1 c1 P) : Runs (sSeq f g) ρ c P := by
  obtain ⟨r, e1, e2⟩ := h2
  exact ⟨r, seq_run h1 e1, e2⟩
/-- .. where the first's state is not named -/
theorem Runs.seq' {Q : Rho → Dr → Prop} (h1 : ∃ ρ1 c1, f ρ c = some (.nx, ρ1, c1) ∧ Q ρ1 c1) (h2 : ∀ ρ1 c1, Q ρ1 c1 → Runs g ρ1 c1 P) : Runs (sSeq f g) ρ c P := by
  obtain ⟨ρ1, c1, e1, q⟩ := h1
  exact .seq e1 (h2 ρ1 c1 q)
theorem Runs.rt {d : D} (h1 : f ρ c = some (.rt d, ρ1, c1)) (h2 : P (.rt d, ρ1, c1)) : Runs (sSeq f g) ρ c P := ⟨_, seq_rt h1, h2⟩
theorem Runs.frz {i : Nat} {ds : List D} (e : ρ[i]? = some (.ol ds)) (h1 : Runs f (ρ.set i (.im (.list ds))) c P) : Runs (sFrz i f) ρ c P := by
  obtain ⟨r, e1, e2⟩ := h1
  exact ⟨r, frz_run e e1, e2⟩
theorem Runs.ret {a : SE} {d : D} (h1 : a ρ c = some (d, c1)) (h2 : P (.rt d, ρ, c1)) : Runs (sRet a) ρ c P := ⟨_, ret_run h1, h2⟩
theorem Runs.ifT {t : SB} (h0 : t ρ c = some (true, c1)) (h1 : Runs f ρ c1 P) : Runs (sIfS t f g) ρ c P := by
  obtain ⟨r, e1, e2⟩ := h1
  exact ⟨r, DL.ifT h0 e1, e2⟩
theorem Runs.ifF {t : SB} (h0 : t ρ c = some (false, c1)) (h1 : Runs g ρ c1 P) : Runs (sIfS t f g) ρ c P := by
  obtain ⟨r, e1, e2⟩ := h1
  exact ⟨r, DL.ifF h0 e1, e2⟩
/-- a guard that does not hold: if t: return .. -/
theorem Runs.pass {t : SB} (h0 : t ρ c = some (false, c1)) (h1 : Runs h ρ c1 P) : Runs (sSeq (sIfS t f sNext) h) ρ c P := .seq (DL.ifF h0 rfl) h1
theorem Runs.leave {t : SB} {a : SE} {d : D} {c2 : Dr} (h0 : t ρ c = some (true, c1)) (h1 : a ρ c1 = some (d, c2)) (h2 : P (.rt d, ρ, c2)) : Runs (sSeq (sIfS t (sRet a) g) h) ρ c P := .rt (DL.ifT h0 (ret_run h1)) h2
end
theorem forS_run {tg : D → Rho → Option Rho} {body : SS} : ∀ {xs : List D} (st : Nat → Rho) (cc : Nat → Dr), (∀ i x, xs[i]? = some x → ∃ ρ1, tg x (st i) = some ρ1 ∧ body ρ1 (cc i) = some (.nx, st (i + 1), cc (i + 1))) → forS tg body xs (st 0) (cc 0) = some (.nx, st xs.length, cc xs.length)
  | [], st, cc, _ => rfl
  | x :: xs, st, cc, h => by
    obtain ⟨ρ1, e1, e2⟩ := h 0 x rfl
    show ((tg x (st 0)).bind fun ρ1 => _) = _
    rw [e1]
    show ((body ρ1 (cc 0)).bind fun r => _) = _
    rw [e2]
    exact forS_run (fun i => st (i + 1)) (fun i => cc (i + 1)) fun i y e => h (i + 1) y e
theorem for_run {fi : SI} {tg : D → Rho → Option Rho} {body : SS} {xs : List D} (st : Nat → Rho) (h0 : fi ρ c = some (xs, c1)) (h1 : ρ = st 0) (h2 : ∀ i x, xs[i]? = some x → ∃ ρ1, tg x (st i) = some ρ1 ∧ body ρ1 c1 = some (.nx, st (i + 1), c1)) : sFor fi tg body ρ c = some (.nx, st xs.length, c1) := by
  unfold sFor
  rw [h0, h1]
  exact forS_run st (fun _ => c1) h2
/-- a loop by what holds at each turn -/
theorem forS_inv {tg : D → Rho → Option Rho} {body : SS} : ∀ {xs : List D} (I : Nat → Rho → Dr → Prop) {ρ : Rho} {c : Dr}, I 0 ρ c → (∀ i x ρ c, xs[i]? = some x → I i ρ c → ∃ ρ1 ρ2 c2, tg x ρ = some ρ1 ∧ body ρ1 c = some (.nx, ρ2, c2) ∧ I (i + 1) ρ2 c2) → ∃ ρ' c', forS tg body xs ρ c = some (.nx, ρ', c') ∧ I xs.length ρ' c'
  | [], I, ρ, c, h0, _ => ⟨ρ, c, rfl, h0⟩
  | x :: xs, I, ρ, c, h0, h => by
    obtain ⟨ρ1, ρ2, c2, e1, e2, e3⟩ := h 0 x ρ c rfl h0
    obtain ⟨ρ', c', e4, e5⟩ := forS_inv (xs := xs) (fun i => I (i + 1)) e3 fun i y ρ c e => h (i + 1) y ρ c e
    refine ⟨ρ', c', ?_, e5⟩
    show ((tg x ρ).bind fun ρ1 => _) = _
    rw [e1]
    show ((body ρ1 c).bind fun r => _) = _
    rw [e2]
    exact e4
theorem for_inv {fi : SI} {tg : D → Rho → Option Rho} {body : SS} {xs : List D} (I : Nat → Rho → Dr → Prop) (h0 : fi ρ c = some (xs, c1)) (h1 : I 0 ρ c1) (h2 : ∀ i x ρ c, xs[i]? = some x → I i ρ c → ∃ ρ1 ρ2 c2, tg x ρ = some ρ1 ∧ body ρ1 c = some (.nx, ρ2, c2) ∧ I (i + 1) ρ2 c2) : ∃ ρ' c', sFor fi tg body ρ c = some (.nx, ρ', c') ∧ I xs.length ρ' c' := by
  unfold sFor
  rw [h0]
  exact forS_inv I h1 h2
/-- a comprehension, item by item -/
theorem lcS_run {tg : D → Rho → Option Rho} {t : SB} {e : SE} {ρ0 : Rho} : ∀ {xs : List D} (f : D → Option D), (∀ x ∈ xs, ∃ ρ1, tg x ρ0 = some ρ1 ∧ match f x with
    | some y => t ρ1 c = some (true, c) ∧ e ρ1 c = some (y, c)
    | none => t ρ1 c = some (false, c)) → lcS tg t e ρ0 xs c = some (xs.filterMap f, c)
  | [], f, _ => rfl
  | x :: xs, f, h => by
    obtain ⟨ρ1, e1, e2⟩ := h x List.mem_cons_self
    have ih := lcS_run (xs := xs) f fun y hy => h y (List.mem_cons_of_mem _ hy)
    show ((tg x ρ0).bind fun ρ1 => _) = _
    rw [e1]
    show ((t ρ1 c).bind fun p => _) = _
    rw [List.filterMap_cons]
    cases q : f x with
    | none =>
      rw [q] at e2
      rw [show t ρ1 c = some (false, c) from e2]
      exact ih
    | some y =>
      rw [q] at e2
      rw [show t ρ1 c = some (true, c) from e2.1]
      show ((e ρ1 c).bind fun q => (lcS tg t e ρ0 xs q.2).bind fun r => some (q.1 :: r.1, r.2)) = _
      rw [show e ρ1 c = some (y, c) from e2.2]
      show (lcS tg t e ρ0 xs c).bind (fun r => some (y :: r.1, r.2)) = _
      rw [ih]
      rfl
theorem lcS_map {tg : D → Rho → Option Rho} {e : SE} {ρ0 : Rho} {xs : List D} (f : D → D) (h : ∀ x ∈ xs, ∃ ρ1, tg x ρ0 = some ρ1 ∧ e ρ1 c = some (f x, c)) : lcS tg sYes e ρ0 xs c = some (xs.map f, c) := by
  rw [lcS_run (c := c) (fun x => some (f x)) fun x hx => ?_]
  · rw [List.filterMap_eq_map']
  · obtain ⟨ρ1, e1, e2⟩ := h x hx
    exact ⟨ρ1, e1, rfl, e2⟩
/-- a comprehension that draws -/
theorem lcS_draw {tg : D → Rho → Option Rho} {e : SE} {ρ0 : Rho} (G : D → Prop) (OK : Dr → Prop) : ∀ {xs : List D} {c : Dr}, OK c → (∀ x ∈ xs, ∃ ρ1, tg x ρ0 = some ρ1 ∧ ∀ c, OK c → ∃ d c', e ρ1 c = some (d, c') ∧ G d ∧ OK c') → ∃ ds c', lcS tg sYes e ρ0 xs c = some (ds, c') ∧ ds.length = xs.length ∧ (∀ d ∈ ds, G d) ∧ OK c'
  | [], c, hc, _ => ⟨[], c, rfl, rfl, fun _ h => (by cases h), hc⟩
  | x :: xs, c, hc, h => by
    obtain ⟨ρ1, e1, e2⟩ := h x List.mem_cons_self
    obtain ⟨d, c1, e3, hd, hc1⟩ := e2 c hc
    obtain ⟨ds, c2, e4, hl, hG, hc2⟩ := lcS_draw G OK (xs := xs) hc1 fun y hy => h y (List.mem_cons_of_mem _ hy)
    refine ⟨d :: ds, c2, ?_, by rw [List.length_cons, List.length_cons, hl], fun z hz => ?_, hc2⟩
    · show ((tg x ρ0).bind fun ρ1 => _) = _
      rw [e1]
      show ((e ρ1 c).bind fun q => (lcS tg sYes e ρ0 xs q.2).bind fun r => some (q.1 :: r.1, r.2)) = _
      rw [e3]
      show (lcS tg sYes e ρ0 xs c1).bind (fun r => some (d :: r.1, r.2)) = _
      rw [e4]
      rfl
    · rcases List.mem_cons.mp hz with w | w
      · rw [w]; exact hd
      · exact hG z w
end
/-! ### lists of ints -/
def iL (xs : List Int) : List D := xs.map .int
@[simp] theorem iL_len {xs : List Int} : (iL xs).length = xs.length := by unfold iL; rw [List.length_map]
def gI (xs : List Int) (i : Nat) : Int := xs.getD i 0
theorem iL_get {xs : List Int} {i : Nat} : (iL xs)[i]? = xs[i]?.map .int := by unfold iL; rw [List.getElem?_map]
theorem iL_app {xs ys : List Int} : iL (xs ++ ys) = iL xs ++ iL ys := by unfold iL; rw [List.map_append]
theorem atI_iL {xs : List Int} {j : Nat} (h : j < xs.length) : atI (iL xs) (j : Int) = some (.int (gI xs j)) := by
  refine atI_nat ?_
  unfold gI
  rw [iL_get, List.getElem?_eq_getElem h]
  simp [List.getD, List.getElem?_eq_getElem h]
theorem atI_nil {α : Type} {xs : List α} {j : Nat} (h : j < xs.length) : atI xs (j : Int) = some xs[j] := atI_nat (List.getElem?_eq_getElem h)
theorem few_of {n : Nat} (h : n ≤ 1000000) : few n = true := decide_eq_true h
theorem okR_of {i : Int} (h : -1000000 ≤ i) (h' : i ≤ 1000000) : okR i = true := decide_eq_true (by omega)
theorem rngL_lt {lo : Int} {n i : Nat} {d : D} (h : (rngL lo n)[i]? = some d) : i < n ∧ d = .int (lo + i) := rngL_get h
end DL
/-! DM: rows, frames, spans and tables, in plain numbers. -/
namespace DM
open PySem PySem.Spec L2 DL
/-! ### equality of data without bools -/
mutual
/-- no bool, no dict; texts that can be laid -/
def nob : D → Bool
  | .none | .int _ => true
  | .bool _ => false
  | .str x => PyData.canLay0 (.str x)
  | .list xs => nobA xs
  | .tuple xs => nobA xs
  | .dict _ => false
def nobA : List D → Bool
  | [] => true
  | x :: xs => nob x && nobA xs
end
mutual
theorem nob_lay : ∀ d : D, nob d = true → d.canLay0 = true
  | .none, _ => by simp [PyData.canLay0]
  | .int _, _ => by simp [PyData.canLay0]
  | .bool _, h => by simp [nob] at h
  | .str x, h => by rw [nob] at h; exact h
  | .list xs, h => by rw [nob] at h; rw [PyData.canLay0]; exact nobA_lay xs h
  | .tuple xs, h => by rw [nob] at h; rw [PyData.canLay0]; exact nobA_lay xs h
  | .dict _, h => by simp [nob] at h
theorem nobA_lay : ∀ ds : List D, nobA ds = true → PyData.canLayAll0 ds = true
  | [], _ => by simp [PyData.canLayAll0]
  | x :: xs, h => by
    rw [nobA, Bool.and_eq_true] at h
    rw [PyData.canLayAll0, nob_lay x h.1, nobA_lay xs h.2]
    rfl
end
mutual
theorem eqv_eq : ∀ d e : D, nob d = true → nob e = true → (PyData.eqv d e = true ↔ d = e)
  | .none, e, _, he => by cases e <;> simp [PyData.eqv, nob] at he ⊢
  | .int _, e, _, he => by cases e <;> simp [PyData.eqv, nob] at he ⊢
  | .bool _, e, h, _ => by simp [nob] at h
  | .str x, e, _, he => by cases e <;> simp [PyData.eqv, nob] at he ⊢
  | .list xs, e, h, he => by
    cases e with
    | list ys =>
      rw [nob] at h he
      rw [PyData.eqv, eqvA_eq xs ys h he]
      exact ⟨fun z => by rw [z], fun z => by cases z; rfl⟩
    | _ => simp [PyData.eqv, nob] at he ⊢
  | .tuple xs, e, h, he => by
    cases e with
    | tuple ys =>
      rw [nob] at h he
      rw [PyData.eqv, eqvA_eq xs ys h he]
      exact ⟨fun z => by rw [z], fun z => by cases z; rfl⟩
    | _ => simp [PyData.eqv, nob] at he ⊢
  | .dict _, e, h, _ => by simp [nob] at h
theorem eqvA_eq : ∀ xs ys : List D, nobA xs = true → nobA ys = true → (PyData.eqvAll xs ys = true ↔ xs = ys)
  | [], [], _, _ => by simp [PyData.eqvAll]
  | [], _ :: _, _, _ => by simp [PyData.eqvAll]
  | _ :: _, [], _, _ => by simp [PyData.eqvAll]
  | x :: xs, y :: ys, h, he => by
    rw [nobA, Bool.and_eq_true] at h he
    rw [PyData.eqvAll, Bool.and_eq_true, eqv_eq x y h.1 he.1, eqvA_eq xs ys h.2 he.2, List.cons.injEq]
end
theorem eqv_dec {d e : D} (h : nob d = true) (he : nob e = true) [Decidable (d = e)] : PyData.eqv d e = decide (d = e) := by
  by_cases z : d = e
  · rw [decide_eq_true z, (eqv_eq d e h he).mpr z]
  · rw [decide_eq_false z]
    cases q : PyData.eqv d e with
    | false => rfl
    | true => exact absurd ((eqv_eq d e h he).mp q) z
theorem nobA_iff : ∀ {ds : List D}, nobA ds = true ↔ ∀ d ∈ ds, nob d = true
  | [] => by simp [nobA]
  | x :: xs => by rw [nobA, Bool.and_eq_true, nobA_iff (ds := xs)]; simp
theorem depthA_le : ∀ {ds : List D} {n : Nat}, (∀ d ∈ ds, d.depth ≤ n) → PyData.depthAll ds ≤ n
  | [], n, _ => by rw [PyData.depthAll]; exact Nat.zero_le _
  | x :: xs, n, h => by
    rw [PyData.depthAll]
    exact Nat.max_le.mpr ⟨h x List.mem_cons_self, depthA_le fun d hd => h d (List.mem_cons_of_mem _ hd)⟩
/-- plain: no bool, and not deep -/
def Pln (n : Nat) (d : D) : Prop := nob d = true ∧ d.depth ≤ n
theorem Pln.shaped {n : Nat} {d : D} (h : Pln n d) (hn : n ≤ 64) : SeqAt.shaped d = true := by
  unfold SeqAt.shaped
  rw [nob_lay d h.1, decide_eq_true (Nat.le_trans h.2 hn)]
  rfl
theorem Pln.list {n : Nat} {ds : List D} (h : ∀ d ∈ ds, Pln n d) : Pln (n + 1) (.list ds) := ⟨by rw [nob]; exact nobA_iff.mpr fun d hd => (h d hd).1, by rw [PyData.depth]; exact Nat.succ_le_succ (depthA_le fun d hd => (h d hd).2)⟩
theorem Pln.tuple {n : Nat} {ds : List D} (h : ∀ d ∈ ds, Pln n d) : Pln (n + 1) (.tuple ds) := ⟨by rw [nob]; exact nobA_iff.mpr fun d hd => (h d hd).1, by rw [PyData.depth]; exact Nat.succ_le_succ (depthA_le fun d hd => (h d hd).2)⟩
theorem pln_int {n : Nat} {i : Int} : Pln n (.int i) := ⟨by simp [nob], by simp [PyData.depth]⟩
theorem pln_none {n : Nat} : Pln n .none := ⟨by simp [nob], by simp [PyData.depth]⟩
theorem Pln.up {n m : Nat} {d : D} (h : Pln n d) (hm : n ≤ m) : Pln m d := ⟨h.1, Nat.le_trans h.2 hm⟩
theorem pln_iL {n : Nat} {xs : List Int} : ∀ d ∈ iL xs, Pln n d := fun d hd => by
  obtain ⟨i, _, rfl⟩ := List.mem_map.mp hd
  exact pln_int
theorem pln_tup {xs : List Int} : Pln 1 (.tuple (iL xs)) := .tuple pln_iL
theorem eqD_of {n : Nat} {d e : D} (hd : Pln n d) (he : Pln n e) (hn : n ≤ 64) [Decidable (d = e)] : eqD d e = some (.bool (decide (d = e))) := by
  unfold eqD
  rw [if_pos ⟨hd.shaped hn, he.shaped hn⟩, eqv_dec hd.1 he.1]
theorem neD_of {n : Nat} {d e : D} (hd : Pln n d) (he : Pln n e) (hn : n ≤ 64) [Decidable (d = e)] : neD d e = some (.bool (!decide (d = e))) := by
  unfold neD
  rw [if_pos ⟨hd.shaped hn, he.shaped hn⟩, eqv_dec hd.1 he.1]
theorem eqD_int {a b : Int} : eqD (.int a) (.int b) = some (.bool (decide (a = b))) := by
  unfold eqD
  rw [if_pos ⟨(pln_int (n := 0)).shaped (by decide), (pln_int (n := 0)).shaped (by decide)⟩]
  simp [PyData.eqv]
  rfl
theorem neD_int {a b : Int} : neD (.int a) (.int b) = some (.bool (!decide (a = b))) := by
  unfold neD
  rw [if_pos ⟨(pln_int (n := 0)).shaped (by decide), (pln_int (n := 0)).shaped (by decide)⟩]
  simp [PyData.eqv]
  rfl
theorem any_eqv {d : D} {ds : List D} (h : nob d = true) (hs : ∀ e ∈ ds, nob e = true) : (ds.any fun z => PyData.eqv z d) = true ↔ d ∈ ds := by
  rw [List.any_eq_true]
  constructor
  · rintro ⟨z, hz, e⟩
    rw [eqv_eq z d (hs z hz) h] at e
    rw [← e]; exact hz
  · exact fun hd => ⟨d, hd, (eqv_eq d d h h).mpr rfl⟩
theorem inD_of {n : Nat} {d : D} {ds : List D} (hd : Pln (n + 1) d) (hs : ∀ e ∈ ds, Pln n e) (hn : n + 1 ≤ 64) [Decidable (d ∈ ds)] : inD d (.list ds) = some (.bool (decide (d ∈ ds))) := by
  have e : (ds.any fun z => PyData.eqv z d) = decide (d ∈ ds) := by
    by_cases z : d ∈ ds
    · rw [decide_eq_true z, (any_eqv hd.1 fun e he => (hs e he).1).mpr z]
    · rw [decide_eq_false z]
      cases q : ds.any fun z => PyData.eqv z d with
      | false => rfl
      | true => exact absurd ((any_eqv hd.1 fun e he => (hs e he).1).mp q) z
  show (if SeqAt.shaped d = true ∧ SeqAt.shaped (.list ds) = true then some (PyData.bool (ds.any fun z => PyData.eqv z d)) else none) = _
  rw [if_pos ⟨hd.shaped hn, (Pln.list hs).shaped hn⟩, e]
theorem bool_eq {a b : Bool} {p : Prop} (h1 : a = true ↔ p) (h2 : b = true ↔ p) : a = b := by
  cases a <;> cases b <;> simp_all
theorem inD_b {n : Nat} {d : D} {ds : List D} {b : Bool} (hd : Pln (n + 1) d) (hs : ∀ e ∈ ds, Pln n e) (hn : n + 1 ≤ 64) (hb : b = true ↔ d ∈ ds) : inD d (.list ds) = some (.bool b) := by
  show (if SeqAt.shaped d = true ∧ SeqAt.shaped (.list ds) = true then some (PyData.bool (ds.any fun z => PyData.eqv z d)) else none) = _
  rw [if_pos ⟨hd.shaped hn, (Pln.list hs).shaped hn⟩, bool_eq (any_eqv hd.1 fun e he => (hs e he).1) hb]
theorem notInD_b {n : Nat} {d : D} {ds : List D} {b : Bool} (hd : Pln (n + 1) d) (hs : ∀ e ∈ ds, Pln n e) (hn : n + 1 ≤ 64) (hb : b = true ↔ d ∈ ds) : notInD d (.list ds) = some (.bool (!b)) := by
  show (if SeqAt.shaped d = true ∧ SeqAt.shaped (.list ds) = true then some (PyData.bool (!ds.any fun z => PyData.eqv z d)) else none) = _
  rw [if_pos ⟨hd.shaped hn, (Pln.list hs).shaped hn⟩, bool_eq (any_eqv hd.1 fun e he => (hs e he).1) hb]
theorem eqD_b {n : Nat} {d e : D} {b : Bool} (hd : Pln n d) (he : Pln n e) (hn : n ≤ 64) (hb : b = true ↔ d = e) : eqD d e = some (.bool b) := by
  unfold eqD
  rw [if_pos ⟨hd.shaped hn, he.shaped hn⟩, bool_eq (eqv_eq d e hd.1 he.1) hb]
theorem neD_b {n : Nat} {d e : D} {b : Bool} (hd : Pln n d) (he : Pln n e) (hn : n ≤ 64) (hb : b = true ↔ d = e) : neD d e = some (.bool (!b)) := by
  unfold neD
  rw [if_pos ⟨hd.shaped hn, he.shaped hn⟩, bool_eq (eqv_eq d e hd.1 he.1) hb]
end DM
/-! DM2: threads of places, spans, tables. -/
namespace DM
open PySem PySem.Spec L2 DL
/-- the rise of each place over its thread's first -/
def Rf (f : Nat) (c : Nat → Int) (p : Nat) : Int :=
  if h : p < f ∨ f = 0 then 0 else Rf f c (p - f) + c (p - f + 1) - c (p - f)
termination_by p
decreasing_by omega
theorem Rf_zero {f : Nat} {c : Nat → Int} {p : Nat} (h : p < f) : Rf f c p = 0 := by rw [Rf, dif_pos (.inl h)]
theorem Rf_step {f : Nat} {c : Nat → Int} {i : Nat} (hf : 1 ≤ f) : Rf f c (f + i) = Rf f c i + c (i + 1) - c i := by
  rw [Rf, dif_neg (by omega)]
  have e : f + i - f = i := by omega
  rw [e]
def RL (f : Nat) (cs : List Int) (P : Nat) : List Int := (List.range P).map (Rf f (gI cs))
theorem RL_len {f P : Nat} {cs : List Int} : (RL f cs P).length = P := by unfold RL; simp
theorem RL_get {f P : Nat} {cs : List Int} {p : Nat} (h : p < P) : gI (RL f cs P) p = Rf f (gI cs) p := by
  unfold RL gI
  simp [List.getD, h]
theorem RL_succ {f P : Nat} {cs : List Int} : RL f cs (P + 1) = RL f cs P ++ [Rf f (gI cs) P] := by
  unfold RL
  rw [List.range_succ, List.map_append]
  rfl
theorem RL_zero {f : Nat} {cs : List Int} : RL f cs f = List.replicate f 0 := by
  unfold RL
  apply List.ext_getElem
  · simp
  · intro i h1 h2
    simp at h1 ⊢
    exact Rf_zero h1
/-- the places of a thread -/
def Pl (t P f : Nat) : List Nat := (List.range ((P - t - 1) / f + 1)).map fun k => t + f * k
theorem mem_Pl {t P f p : Nat} (hf : 1 ≤ f) (ht : t < f) (hP : f ≤ P) : p ∈ Pl t P f ↔ p < P ∧ p % f = t := by
  unfold Pl
  rw [List.mem_map]
  constructor
  · rintro ⟨k, hk, rfl⟩
    have hk := List.mem_range.mp hk
    have h1 : f * k ≤ P - t - 1 := Nat.le_trans (Nat.mul_le_mul_left f (by omega : k ≤ (P - t - 1) / f)) (Nat.mul_div_le _ _)
    exact ⟨by omega, by rw [Nat.add_mul_mod_self_left, Nat.mod_eq_of_lt ht]⟩
  · rintro ⟨h1, h2⟩
    have e := Nat.div_add_mod p f
    refine ⟨p / f, List.mem_range.mpr ?_, by omega⟩
    have : p / f ≤ (P - t - 1) / f := (Nat.le_div_iff_mul_le (by omega)).mpr (by rw [Nat.mul_comm]; omega)
    omega
theorem Pl_ne {t P f : Nat} : Pl t P f ≠ [] := by
  unfold Pl
  rw [List.range_succ, List.map_append]
  simp
def ups (f : Nat) (c : Nat → Int) (P t : Nat) : List Int := (Pl t P f).map (Rf f c)
theorem ups_ne {f : Nat} {c : Nat → Int} {P t : Nat} : ups f c P t ≠ [] := fun h => Pl_ne (List.map_eq_nil_iff.mp h)
def loS (f : Nat) (c : Nat → Int) (P t : Nat) : Int := 0 - minL (ups f c P t)
def hiS (cap : Int) (f : Nat) (c : Nat → Int) (P t : Nat) : Int := cap - maxL (ups f c P t)
section
variable {f P t p : Nat} {c : Nat → Int} {cap : Int}
theorem loS_le (hf : 1 ≤ f) (hP : f ≤ P) (hp : p < P) : 0 ≤ loS f c P (p % f) + Rf f c p := by
  have := (minL_spec ups_ne).2 (Rf f c p) (List.mem_map_of_mem (f := Rf f c) ((mem_Pl hf (Nat.mod_lt p (by omega)) hP).mpr ⟨hp, rfl⟩))
  unfold loS
  omega
theorem hiS_ge (hf : 1 ≤ f) (hP : f ≤ P) (hp : p < P) : hiS cap f c P (p % f) + Rf f c p ≤ cap := by
  have := (maxL_spec ups_ne).2 (Rf f c p) (List.mem_map_of_mem (f := Rf f c) ((mem_Pl hf (Nat.mod_lt p (by omega)) hP).mpr ⟨hp, rfl⟩))
  unfold hiS
  omega
theorem loS_at (hf : 1 ≤ f) (hP : f ≤ P) (ht : t < f) : ∃ p, p < P ∧ p % f = t ∧ loS f c P t + Rf f c p = 0 := by
  obtain ⟨p, h1, h2⟩ := List.mem_map.mp (minL_spec (ups_ne (f := f) (c := c) (P := P) (t := t))).1
  obtain ⟨h3, h4⟩ := (mem_Pl hf ht hP).mp h1
  exact ⟨p, h3, h4, by unfold loS; omega⟩
theorem hiS_at (hf : 1 ≤ f) (hP : f ≤ P) (ht : t < f) : ∃ p, p < P ∧ p % f = t ∧ hiS cap f c P t + Rf f c p = cap := by
  obtain ⟨p, h1, h2⟩ := List.mem_map.mp (maxL_spec (ups_ne (f := f) (c := c) (P := P) (t := t))).1
  obtain ⟨h3, h4⟩ := (mem_Pl hf ht hP).mp h1
  exact ⟨p, h3, h4, by unfold hiS; omega⟩
end
/-- what a value w at the first place of its thread may be -/
theorem span_iff {f P t : Nat} {c : Nat → Int} {cap w : Int} (hf : 1 ≤ f) (hP : f ≤ P) (ht : t < f) : (loS f c P t ≤ w ∧ w ≤ hiS cap f c P t) ↔ ∀ p, p < P → p % f = t → 0 ≤ w + Rf f c p ∧ w + Rf f c p ≤ cap := by
  constructor
  · rintro ⟨h1, h2⟩ p hp e
    subst e
    have a := loS_le (c := c) hf hP hp
    have b := hiS_ge (c := c) (cap := cap) hf hP hp
    omega
  · intro h
    obtain ⟨p, h1, h2, h3⟩ := loS_at (c := c) hf hP ht
    obtain ⟨q, g1, g2, g3⟩ := hiS_at (c := c) (cap := cap) hf hP ht
    have := h p h1 h2
    have := h q g1 g2
    omega
theorem fm_congr {α β : Type} {g h : α → Option β} : ∀ {xs : List α}, (∀ x ∈ xs, g x = h x) → xs.filterMap g = xs.filterMap h
  | [], _ => rfl
  | x :: xs, e => by rw [List.filterMap_cons, List.filterMap_cons, e x List.mem_cons_self, fm_congr (xs := xs) fun y hy => e y (List.mem_cons_of_mem _ hy)]
theorem pick_Pl {f P t : Nat} {c : Nat → Int} {cs : List Int} (hf : 1 ≤ f) (hP : f ≤ P) (ht : t < f) : pickL (iL (RL f cs P)) (some (t : Int)) none (some (f : Int)) = iL (ups f (gI cs) P t) := by
  have eb : sliceBounds (some (t : Int)) none (some (f : Int)) P = ((t : Int), (P : Int), (f : Int)) := by
    unfold sliceBounds
    simp
    omega
  unfold pickL
  rw [iL_len, RL_len, eb]
  unfold sliceRange
  rw [if_pos (show (f : Int) > 0 by omega), if_pos (show (t : Int) < P by omega)]
  have ec : (((P : Int) - t + f - 1) / (f : Int)).toNat = (P - t - 1) / f + 1 := by
    have e1 : (P : Int) - t + f - 1 = ((P - t - 1 + f : Nat) : Int) := by omega
    rw [e1, ← Int.natCast_ediv, Int.toNat_natCast, Nat.add_div_right _ (by omega)]
  show List.filterMap (fun j => (iL (RL f cs P))[j]?) (List.map (fun (k : Nat) => ((t : Int) + (f : Int) * (k : Int)).toNat) (List.range (((P : Int) - t + f - 1) / (f : Int)).toNat)) = _
  rw [ec]
  unfold ups Pl iL
  rw [List.filterMap_map, List.map_map, List.map_map]
  refine Eq.trans ?_ (congrFun List.filterMap_eq_map _)
  refine fm_congr fun k hk => ?_
  have hk := List.mem_range.mp hk
  have h1 : f * k ≤ P - t - 1 := Nat.le_trans (Nat.mul_le_mul_left f (by omega : k ≤ (P - t - 1) / f)) (Nat.mul_div_le _ _)
  have e2 : ((t : Int) + (f : Int) * (k : Int)).toNat = t + f * k := by
    rw [show (t : Int) + (f : Int) * (k : Int) = ((t + f * k : Nat) : Int) by simp, Int.toNat_natCast]
  show (List.map PyData.int (RL f cs P))[((t : Int) + (f : Int) * (k : Int)).toNat]? = some (PyData.int (Rf f (gI cs) (t + f * k)))
  rw [e2]
  unfold RL
  rw [List.map_map, List.getElem?_map, List.getElem?_range (by omega)]
  rfl
theorem stp_Pl {f P t : Nat} (hf : 1 ≤ f) (hP : f ≤ P) (ht : t < f) : stpL (t : Int) (f : Int) (Builtin.Range.rangeSize (t : Int) (P : Int) (f : Int)).toNat = iL ((Pl t P f).map fun p : Nat => (p : Int)) := by
  have ec : (Builtin.Range.rangeSize (t : Int) (P : Int) (f : Int)).toNat = (P - t - 1) / f + 1 := by
    unfold Builtin.Range.rangeSize
    rw [if_pos (show (f : Int) > 0 by omega), if_pos (show (t : Int) < P by omega)]
    have e1 : (P : Int) - t - 1 = ((P - t - 1 : Nat) : Int) := by omega
    rw [e1, ← Int.natCast_ediv]
    generalize (P - t - 1) / f = z
    omega
  rw [ec]
  unfold stpL Pl iL
  rw [List.map_map, List.map_map]
  refine List.map_congr_left fun k _ => ?_
  show PyData.int _ = PyData.int _
  congr 1
  show (t : Int) + (k : Int) * (f : Int) = ((t + f * k : Nat) : Int)
  rw [Int.natCast_add, Int.natCast_mul, Int.mul_comm]
/-! ### tables -/
abbrev Tab := List (Int × Int)
def tlook (t : Tab) (k : Int) : Int := ((t.find? fun p => decide (p.1 = k)).map (·.2)).getD 0
def tput (t : Tab) (k v : Int) : Tab := if (t.any fun p => decide (p.1 = k)) = true then t.map (fun p => if p.1 = k then (p.1, v) else p) else t ++ [(k, v)]
def tabD (t : Tab) : List (Int × D) := t.map fun p => (p.1, .int p.2)
theorem kvLook_tab {t : Tab} {k : Int} : (kvLook (tabD t) k).getD (.int 0) = .int (tlook t k) := by
  unfold kvLook tabD tlook
  induction t with
  | nil => rfl
  | cons p t ih =>
    by_cases h : p.1 = k
    · simp [h]
    · simp only [List.map_cons, List.find?_cons, h, decide_false]
      exact ih
theorem kvPut_tab {t : Tab} {k v : Int} : kvPut (tabD t) k (.int v) = tabD (tput t k v) := by
  unfold kvPut tput
  have e : ((tabD t).any fun p => decide (p.1 = k)) = t.any fun p => decide (p.1 = k) := by
    unfold tabD; rw [List.any_map]; rfl
  rw [e]
  split
  · unfold tabD
    rw [List.map_map, List.map_map]
    refine List.map_congr_left fun p _ => ?_
    show (if p.1 = k then (p.1, PyData.int v) else (p.1, PyData.int p.2)) = ((if p.1 = k then (p.1, v) else p).1, PyData.int (if p.1 = k then (p.1, v) else p).2)
    split <;> rfl
  · unfold tabD; rw [List.map_append]; rfl
theorem tlook_put {t : Tab} {k v w : Int} : tlook (tput t k v) w = if w = k then v else tlook t w := by
  unfold tput
  split
  · rename_i h
    induction t with
    | nil => simp at h
    | cons p t ih =>
      unfold tlook at *
      by_cases hp : p.1 = k
      · by_cases hw : w = k
        · subst hw; simp [hp]
        · rw [if_neg hw]
          have hpw : ¬ p.1 = w := fun z => hw (by rw [← z, hp])
          rw [List.map_cons, if_pos hp, List.find?_cons, List.find?_cons]
          simp only [hpw, decide_false]
          by_cases ha : (t.any fun p => decide (p.1 = k)) = true
          · have := ih ha
            rw [if_neg hw] at this
            exact this
          · have e : t.map (fun p => if p.1 = k then (p.1, v) else p) = t := by
              rw [List.map_congr_left (g := id) fun q hq => ?_, List.map_id]
              rw [if_neg fun z => ha (List.any_eq_true.mpr ⟨q, hq, decide_eq_true z⟩)]
              rfl
            rw [e]
      · have ha : (t.any fun p => decide (p.1 = k)) = true := by
          rw [List.any_cons, Bool.or_eq_true] at h
          rcases h with h | h
          · exact absurd (of_decide_eq_true h) hp
          · exact h
        have := ih ha
        rw [List.map_cons, if_neg hp, List.find?_cons, List.find?_cons]
        by_cases hpw : p.1 = w
        · have hw : ¬ w = k := fun z => hp (by rw [hpw, z])
          simp [hpw, hw]
        · simp only [hpw, decide_false]
          exact this
  · rename_i h
    have hn : ∀ p ∈ t, ¬ p.1 = k := fun p hp z => h (List.any_eq_true.mpr ⟨p, hp, decide_eq_true z⟩)
    unfold tlook
    rw [List.find?_append]
    by_cases hw : w = k
    · subst hw
      rw [List.find?_eq_none.mpr fun p hp => by simpa using hn p hp]
      simp
    · rw [if_neg hw]
      cases q : t.find? fun p => decide (p.1 = w) with
      | some u => simp
      | none => simp [Ne.symm hw]
def TPos (t : Tab) : Prop := ∀ p ∈ t, 0 < p.2
theorem tpos_put {t : Tab} {k v : Int} (h : TPos t) (hv : 0 < v) : TPos (tput t k v) := by
  unfold tput
  split
  · intro p hp
    obtain ⟨q, hq, rfl⟩ := List.mem_map.mp hp
    split
    · exact hv
    · exact h q hq
  · intro p hp
    rcases List.mem_append.mp hp with z | z
    · exact h p z
    · rw [List.mem_singleton.mp z]; exact hv
theorem tlook_nonneg {t : Tab} (h : TPos t) (k : Int) : 0 ≤ tlook t k := by
  unfold tlook
  cases q : t.find? fun p => decide (p.1 = k) with
  | none => simp
  | some u => simpa using Int.le_of_lt (h u (List.mem_of_find?_eq_some q))
theorem tlook_pos {t : Tab} (h : TPos t) (k : Int) : 0 < tlook t k ↔ ∃ m, (k, m) ∈ t := by
  unfold tlook
  cases q : t.find? fun p => decide (p.1 = k) with
  | none =>
    simp only [Option.map_none, Option.getD_none]
    refine ⟨fun z => absurd z (by decide), fun ⟨m, hm⟩ => ?_⟩
    have := List.find?_eq_none.mp q (k, m) hm
    simp at this
  | some u =>
    have hu := List.mem_of_find?_eq_some q
    have e : u.1 = k := by simpa using List.find?_some q
    refine ⟨fun _ => ⟨u.2, by rw [← e]; exact hu⟩, fun _ => ?_⟩
    simpa using h u hu
/-- one number's row of a table -/
def trow (s m lo : Int) : Nat → Tab → Tab
  | 0, t => t
  | n + 1, t => let u := trow s m lo n t; tput u (s + (lo + n)) (tlook u (s + (lo + n)) + m)
theorem trow_pos {s m lo : Int} (hm : 0 < m) : ∀ {n : Nat} {t : Tab}, TPos t → TPos (trow s m lo n t)
  | 0, t, h => h
  | n + 1, t, h => by
    have ih := trow_pos (s := s) (lo := lo) hm (n := n) h
    exact tpos_put ih (by have := tlook_nonneg ih (s + (lo + n)); omega)
theorem trow_look {s m lo w : Int} : ∀ {n : Nat} {t : Tab}, tlook (trow s m lo n t) w = tlook t w + if lo ≤ w - s ∧ w - s < lo + n then m else 0
  | 0, t => by
    rw [if_neg (by omega)]
    show tlook t w = _
    omega
  | n + 1, t => by
    show tlook (tput (trow s m lo n t) _ _) w = _
    rw [tlook_put]
    by_cases h : w = s + (lo + n)
    · rw [if_pos h, ← h, trow_look, if_neg (by omega), if_pos (by omega)]
      omega
    · rw [if_neg h, trow_look]
      by_cases h2 : lo ≤ w - s ∧ w - s < lo + n
      · rw [if_pos h2, if_pos (by omega)]
      · rw [if_neg h2, if_neg (by omega)]
/-- a table by one thread more -/
def tstep (lo : Int) (n : Nat) (t : Tab) : Tab := t.foldl (fun u p => trow p.1 p.2 lo n u) []
theorem tfold_pos {lo : Int} {n : Nat} : ∀ {t : Tab} {u : Tab}, TPos t → TPos u → TPos (t.foldl (fun u p => trow p.1 p.2 lo n u) u)
  | [], u, _, hu => hu
  | p :: t, u, h, hu => tfold_pos (t := t) (fun q hq => h q (List.mem_cons_of_mem _ hq)) (trow_pos (h p List.mem_cons_self) hu)
theorem tstep_pos {lo : Int} {n : Nat} {t : Tab} (h : TPos t) : TPos (tstep lo n t) := tfold_pos h fun _ z => by cases z
theorem tfold_look {lo w : Int} {n : Nat} : ∀ {t : Tab} {u : Tab}, TPos t → 0 ≤ tlook u w → (0 < tlook (t.foldl (fun u p => trow p.1 p.2 lo n u) u) w ↔ 0 < tlook u w ∨ ∃ p ∈ t, lo ≤ w - p.1 ∧ w - p.1 < lo + n)
  | [], u, _, _ => by simp
  | p :: t, u, h, hu => by
    have hp := h p List.mem_cons_self
    rw [List.foldl_cons]
    by_cases z : lo ≤ w - p.1 ∧ w - p.1 < lo + n
    · have e := trow_look (s := p.1) (m := p.2) (lo := lo) (w := w) (n := n) (t := u)
      rw [if_pos z] at e
      rw [tfold_look (fun q hq => h q (List.mem_cons_of_mem _ hq)) (by omega), e]
      exact ⟨fun _ => .inr ⟨p, List.mem_cons_self, z⟩, fun _ => .inl (by omega)⟩
    · have e := trow_look (s := p.1) (m := p.2) (lo := lo) (w := w) (n := n) (t := u)
      rw [if_neg z, Int.add_zero] at e
      rw [tfold_look (fun q hq => h q (List.mem_cons_of_mem _ hq)) (by omega), e]
      constructor
      · rintro (h1 | ⟨q, hq, h2⟩)
        · exact .inl h1
        · exact .inr ⟨q, List.mem_cons_of_mem _ hq, h2⟩
      · rintro (h1 | ⟨q, hq, h2⟩)
        · exact .inl h1
        · rcases List.mem_cons.mp hq with e2 | e2
          · subst e2; exact absurd h2 z
          · exact .inr ⟨q, e2, h2⟩
theorem tstep_look {lo w : Int} {n : Nat} {t : Tab} (h : TPos t) : 0 < tlook (tstep lo n t) w ↔ ∃ s, 0 < tlook t s ∧ lo ≤ w - s ∧ w - s < lo + n := by
  unfold tstep
  rw [tfold_look h (by unfold tlook; simp)]
  constructor
  · rintro (z | ⟨p, hp, h2⟩)
    · exact absurd z (by unfold tlook; simp)
    · exact ⟨p.1, (tlook_pos h p.1).mpr ⟨p.2, hp⟩, h2⟩
  · rintro ⟨s, h1, h2⟩
    obtain ⟨m, hm⟩ := (tlook_pos h s).mp h1
    exact .inr ⟨_, hm, h2⟩
/-- the table of a list of spans -/
def tabS (ss : List (Int × Int)) : Tab := ss.foldl (fun t s => tstep s.1 (s.2 + 1 - s.1).toNat t) [(0, 1)]
theorem tabS_snoc {ss : List (Int × Int)} {s : Int × Int} : tabS (ss ++ [s]) = tstep s.1 (s.2 + 1 - s.1).toNat (tabS ss) := by unfold tabS; rw [List.foldl_append]; rfl
theorem rev_ind {α : Type} {P : List α → Prop} (h0 : P []) (h1 : ∀ xs x, P xs → P (xs ++ [x])) (xs : List α) : P xs := by
  have : ∀ ys : List α, P ys.reverse := by
    intro ys
    induction ys with
    | nil => exact h0
    | cons y ys ih => rw [List.reverse_cons]; exact h1 _ _ ih
  have := this xs.reverse
  rwa [List.reverse_reverse] at this
theorem tabS_pos (ss : List (Int × Int)) : TPos (tabS ss) := by
  refine rev_ind (P := fun ss => TPos (tabS ss)) ?_ (fun xs x ih => ?_) ss
  · intro p hp
    rw [List.mem_singleton.mp hp]; decide
  · rw [tabS_snoc]; exact tstep_pos ih
def sumLo (ss : List (Int × Int)) : Int := (ss.map (·.1)).sum
def sumHi (ss : List (Int × Int)) : Int := (ss.map (·.2)).sum
/-- ways of a whole -/
def wayV (ss : List (Int × Int)) (w : Int) : Int := tlook (tabS ss) w
theorem wayV_nonneg (ss : List (Int × Int)) (w : Int) : 0 ≤ wayV ss w := tlook_nonneg (tabS_pos ss) w
theorem sum_snoc {xs : List Int} {x : Int} : (xs ++ [x]).sum = xs.sum + x := by simp
theorem sum_le : ∀ {xs : List (Int × Int)}, (∀ s ∈ xs, s.1 ≤ s.2) → (xs.map (·.1)).sum ≤ (xs.map (·.2)).sum
  | [], _ => by simp
  | y :: ys, h => by
    have h1 := h y List.mem_cons_self
    have h2 := sum_le fun s hs => h s (List.mem_cons_of_mem _ hs)
    simp only [List.map_cons, List.sum_cons]
    omega
theorem wayV_pos (ss : List (Int × Int)) : (∀ s ∈ ss, s.1 ≤ s.2) → ∀ w, (0 < wayV ss w ↔ sumLo ss ≤ w ∧ w ≤ sumHi ss) := by
  refine rev_ind (P := fun ss => (∀ s ∈ ss, s.1 ≤ s.2) → ∀ w, (0 < wayV ss w ↔ sumLo ss ≤ w ∧ w ≤ sumHi ss)) (fun _ w => ?_) (fun xs x ih h w => ?_) ss
  · unfold wayV tabS sumLo sumHi tlook
    by_cases e : (0 : Int) = w
    · subst e; simp
    · simp [e]; omega
  · have hx := h x (List.mem_append.mpr (.inr (List.mem_singleton.mpr rfl)))
    have ih := ih fun s hs => h s (List.mem_append.mpr (.inl hs))
    unfold wayV at ih ⊢
    rw [tabS_snoc, tstep_look (tabS_pos xs)]
    unfold sumLo sumHi at ih ⊢
    rw [List.map_append, List.map_append, List.map_singleton, List.map_singleton, sum_snoc, sum_snoc]
    have en : ((x.2 + 1 - x.1).toNat : Int) = x.2 + 1 - x.1 := by omega
    rw [en]
    have hle : (xs.map (·.1)).sum ≤ (xs.map (·.2)).sum := by
      have h' : ∀ s ∈ xs, s.1 ≤ s.2 := fun s hs => h s (List.mem_append.mpr (.inl hs))
      exact sum_le h'
    constructor
    · rintro ⟨s, h1, h2, h3⟩
      have := (ih s).mp h1
      omega
    · rintro ⟨h1, h2⟩
      refine ⟨max (xs.map (·.1)).sum (w - x.2), (ih _).mpr ?_, ?_⟩ <;> omega
theorem tstep_none {lo : Int} {t : Tab} : tstep lo 0 t = [] := by
  unfold tstep
  induction t with
  | nil => rfl
  | cons p t ih => exact ih
theorem tfold_nil : ∀ ss : List (Int × Int), ss.foldl (fun t s => tstep s.1 (s.2 + 1 - s.1).toNat t) [] = []
  | [] => rfl
  | s :: ss => tfold_nil ss
theorem wayV_none {ss : List (Int × Int)} {s : Int × Int} (hs : s ∈ ss) (h : s.2 < s.1) (w : Int) : wayV ss w = 0 := by
  obtain ⟨xs, ys, rfl⟩ := List.append_of_mem hs
  unfold wayV tabS
  rw [List.foldl_append, List.foldl_cons, show (s.2 + 1 - s.1).toNat = 0 by omega, tstep_none, tfold_nil]
  rfl
end DM
/-! DM3: counts of rows, what rows a telling leaves, the least of them. -/
namespace DM
open PySem PySem.Spec L2 DL
def sumN : Nat → (Nat → Int) → Int
  | 0, _ => 0
  | n + 1, g => sumN n g + g n
theorem sumN_congr {g h : Nat → Int} : ∀ {n : Nat}, (∀ i, i < n → g i = h i) → sumN n g = sumN n h
  | 0, _ => rfl
  | n + 1, e => by
    show sumN n g + g n = sumN n h + h n
    rw [sumN_congr fun i hi => e i (by omega), e n (by omega)]
theorem sumN_le {g h : Nat → Int} : ∀ {n : Nat}, (∀ i, i < n → g i ≤ h i) → sumN n g ≤ sumN n h
  | 0, _ => Int.le_refl _
  | n + 1, e => by
    have h1 := sumN_le (n := n) fun i hi => e i (by omega)
    have h2 := e n (by omega)
    show sumN n g + g n ≤ sumN n h + h n
    omega
theorem sumN_const {k : Int} : ∀ {n : Nat}, sumN n (fun _ => k) = n * k
  | 0 => by show (0 : Int) = _; simp
  | n + 1 => by
    show sumN n (fun _ => k) + k = _
    rw [sumN_const, Int.natCast_add, Int.add_mul]
    simp
theorem sumN_shift {g : Nat → Int} : ∀ {n : Nat}, sumN n (fun j => g (1 + j)) = sumN n g + g n - g 0
  | 0 => by show (0 : Int) = 0 + g 0 - g 0; omega
  | n + 1 => by
    show sumN n (fun j => g (1 + j)) + g (1 + n) = sumN n g + g n + g (n + 1) - g 0
    rw [sumN_shift, Nat.add_comm 1 n]
    omega
theorem sumN_map {g : Nat → Int} : ∀ {n : Nat}, ((List.range n).map g).sum = sumN n g
  | 0 => rfl
  | n + 1 => by rw [List.range_succ, List.map_append, List.map_singleton, sum_snoc, sumN_map]; rfl
theorem sumN_split {g : Nat → Int} {t : Nat} : ∀ {n : Nat}, t ≤ n → sumN n g = sumN t g + sumN (n - t) (fun j => g (t + j))
  | 0, h => by
    obtain rfl : t = 0 := by omega
    rfl
  | n + 1, h => by
    by_cases e : t = n + 1
    · subst e
      rw [Nat.sub_self]
      show _ = _ + (0 : Int)
      omega
    · have e1 : n + 1 - t = (n - t) + 1 := by omega
      rw [e1]
      show sumN n g + g n = sumN t g + (sumN (n - t) (fun j => g (t + j)) + g (t + (n - t)))
      rw [sumN_split (t := t) (n := n) (by omega), show t + (n - t) = n by omega]
      omega
/-- the count at a stand -/
def cnt (f : Nat) (r : Nat → Int) (s : Nat) : Int := sumN f fun j => r (s + j)
theorem cnt_step {f s : Nat} {r : Nat → Int} : cnt f r (s + 1) = cnt f r s + r (s + f) - r s := by
  unfold cnt
  have := sumN_shift (g := fun j => r (s + j)) (n := f)
  rw [show (fun j => r (s + 1 + j)) = fun j => r (s + (1 + j)) by funext j; rw [Nat.add_assoc]]
  rw [this]
  rfl
def csL (f : Nat) (row : List Int) : List Int := (List.range (row.length - f + 1)).map (cnt f (gI row))
theorem csL_len {f : Nat} {row : List Int} : (csL f row).length = row.length - f + 1 := by unfold csL; simp
theorem csL_get {f s : Nat} {row : List Int} (h : s < row.length - f + 1) : gI (csL f row) s = cnt f (gI row) s := by
  unfold csL gI
  simp [List.getD, h]
/-- r has the counts c at each stand -/
def Has (f P : Nat) (c r : Nat → Int) : Prop := ∀ s, s + f ≤ P → cnt f r s = c s
theorem has_csL {f : Nat} {row : List Int} (hP : f ≤ row.length) : Has f row.length (gI (csL f row)) (gI row) := fun s hs => (csL_get (by omega)).symm
theorem has_rise {f P : Nat} {c r : Nat → Int} (hf : 1 ≤ f) (h : Has f P c r) : ∀ p, p < P → r p = r (p % f) + Rf f c p := by
  intro p
  induction p using Nat.strongRecOn with
  | ind p ih =>
    intro hp
    by_cases hpf : p < f
    · rw [Nat.mod_eq_of_lt hpf, Rf_zero hpf]; omega
    · obtain ⟨i, rfl⟩ : ∃ i, p = f + i := ⟨p - f, by omega⟩
      have e1 := ih i (by omega) (by omega)
      rw [Rf_step hf, Nat.add_mod_left]
      have h1 := h (i + 1) (by omega)
      have h2 := h i (by omega)
      rw [cnt_step] at h1
      rw [Nat.add_comm f i]
      omega
theorem rise_has {f P : Nat} {c r : Nat → Int} (hf : 1 ≤ f) (h : ∀ p, p < P → r p = r (p % f) + Rf f c p) (h0 : sumN f r = c 0) : Has f P c r := by
  intro s
  induction s with
  | zero =>
    intro _
    unfold cnt
    rw [← h0]
    exact sumN_congr fun i _ => by rw [Nat.zero_add]
  | succ s ih =>
    intro hs
    have e := ih (by omega)
    rw [cnt_step, e]
    have h1 := h (f + s) (by omega)
    have h2 := h s (by omega)
    rw [Rf_step hf, Nat.add_mod_left] at h1
    rw [Nat.add_comm s f]
    omega
def SPL (cap : Int) (f : Nat) (c : Nat → Int) (P : Nat) : List (Int × Int) := (List.range f).map fun t => (loS f c P t, hiS cap f c P t)
/-- how many rows there are -/
def fitV (P : Nat) (cap : Int) (f : Nat) (c : Nat → Int) : Int := wayV (SPL cap f c P) (c 0)
theorem fitV_nonneg {P f : Nat} {cap : Int} {c : Nat → Int} : 0 ≤ fitV P cap f c := wayV_nonneg _ _
def OkS (P : Nat) (cap : Int) (f : Nat) (c : Nat → Int) : Prop := ∀ t, t < f → loS f c P t ≤ hiS cap f c P t
theorem sumLo_SPL {P f : Nat} {cap : Int} {c : Nat → Int} : sumLo (SPL cap f c P) = sumN f (loS f c P) := by
  unfold sumLo SPL
  rw [List.map_map, ← sumN_map]
  rfl
theorem sumHi_SPL {P f : Nat} {cap : Int} {c : Nat → Int} : sumHi (SPL cap f c P) = sumN f (hiS cap f c P) := by
  unfold sumHi SPL
  rw [List.map_map, ← sumN_map]
  rfl
theorem okS_iff {P f : Nat} {cap : Int} {c : Nat → Int} : OkS P cap f c ↔ ∀ s ∈ SPL cap f c P, s.1 ≤ s.2 := by
  unfold OkS SPL
  constructor
  · intro h s hs
    obtain ⟨t, ht, rfl⟩ := List.mem_map.mp hs
    exact h t (List.mem_range.mp ht)
  · intro h t ht
    exact h _ (List.mem_map_of_mem (List.mem_range.mpr ht))
theorem fitV_pos {P f : Nat} {cap : Int} {c : Nat → Int} : 0 < fitV P cap f c ↔ OkS P cap f c ∧ sumN f (loS f c P) ≤ c 0 ∧ c 0 ≤ sumN f (hiS cap f c P) := by
  unfold fitV
  by_cases h : OkS P cap f c
  · rw [wayV_pos _ (okS_iff.mp h), sumLo_SPL, sumHi_SPL]
    exact ⟨fun z => ⟨h, z⟩, fun z => z.2⟩
  · refine ⟨fun z => ?_, fun z => absurd z.1 h⟩
    rw [okS_iff] at h
    have ⟨s, hs⟩ := Classical.not_forall.mp h
    have ⟨h1, h2⟩ := Classical.not_imp.mp hs
    rw [wayV_none h1 (by omega)] at z
    exact absurd z (by decide)
/-- a row that is in bounds and has the counts -/
theorem row_fits {P f : Nat} {cap : Int} {c r : Nat → Int} (hf : 1 ≤ f) (hP : f ≤ P) (h : Has f P c r) (hb : ∀ p, p < P → 0 ≤ r p ∧ r p ≤ cap) : (∀ t, t < f → loS f c P t ≤ r t ∧ r t ≤ hiS cap f c P t) ∧ 0 < fitV P cap f c := by
  have hs : ∀ t, t < f → loS f c P t ≤ r t ∧ r t ≤ hiS cap f c P t := fun t ht => (span_iff hf hP ht).mpr fun p hp e => by
    have := has_rise hf h p hp
    rw [e] at this
    have := hb p hp
    omega
  have e0 : sumN f r = c 0 := by
    rw [← h 0 (by omega)]
    unfold cnt
    exact sumN_congr fun i _ => by rw [Nat.zero_add]
  refine ⟨hs, fitV_pos.mpr ⟨fun t ht => ?_, ?_, ?_⟩⟩
  · have := hs t ht; omega
  · rw [← e0]; exact sumN_le fun t ht => (hs t ht).1
  · rw [← e0]; exact sumN_le fun t ht => (hs t ht).2
/-! ### the least row -/
def grL (lo hi : Nat → Int) (c0 H : Int) : Nat → Int
  | 0 => c0
  | n + 1 => grL lo hi c0 H n - max (lo n) (grL lo hi c0 H n - (H - sumN (n + 1) hi))
def grX (lo hi : Nat → Int) (c0 H : Int) (n : Nat) : Int := max (lo n) (grL lo hi c0 H n - (H - sumN (n + 1) hi))
theorem grL_sum {lo hi : Nat → Int} {c0 H : Int} : ∀ n, grL lo hi c0 H n = c0 - sumN n (grX lo hi c0 H)
  | 0 => by show c0 = c0 - 0; omega
  | n + 1 => by
    show grL lo hi c0 H n - grX lo hi c0 H n = c0 - (sumN n (grX lo hi c0 H) + grX lo hi c0 H n)
    rw [grL_sum n]
    omega
theorem gr_inv {lo hi : Nat → Int} {c0 : Int} {f : Nat} (h : ∀ t, t < f → lo t ≤ hi t) (h1 : sumN f lo ≤ c0) (h2 : c0 ≤ sumN f hi) : ∀ n, n ≤ f → sumN f lo - sumN n lo ≤ grL lo hi c0 (sumN f hi) n ∧ grL lo hi c0 (sumN f hi) n ≤ sumN f hi - sumN n hi
  | 0, _ => by
    show sumN f lo - 0 ≤ c0 ∧ c0 ≤ sumN f hi - 0
    omega
  | n + 1, hn => by
    obtain ⟨a, b⟩ := gr_inv h h1 h2 n (by omega)
    have hh := h n (by omega)
    show sumN f lo - (sumN n lo + lo n) ≤ grL lo hi c0 (sumN f hi) n - max (lo n) (grL lo hi c0 (sumN f hi) n - (sumN f hi - (sumN n hi + hi n))) ∧ grL lo hi c0 (sumN f hi) n - max (lo n) (grL lo hi c0 (sumN f hi) n - (sumN f hi - (sumN n hi + hi n))) ≤ sumN f hi - (sumN n hi + hi n)
    have hle : sumN f lo - sumN (n + 1) lo ≤ sumN f hi - sumN (n + 1) hi := by
      rw [sumN_split (g := lo) hn, sumN_split (g := hi) hn]
      have := sumN_le (g := fun j => lo (n + 1 + j)) (h := fun j => hi (n + 1 + j)) (n := f - (n + 1)) fun i hi => h _ (by omega)
      omega
    have hle' : sumN f lo - (sumN n lo + lo n) ≤ sumN f hi - (sumN n hi + hi n) := hle
    omega
theorem gr_ok {lo hi : Nat → Int} {c0 : Int} {f : Nat} (h : ∀ t, t < f → lo t ≤ hi t) (h1 : sumN f lo ≤ c0) (h2 : c0 ≤ sumN f hi) : (∀ t, t < f → lo t ≤ grX lo hi c0 (sumN f hi) t ∧ grX lo hi c0 (sumN f hi) t ≤ hi t) ∧ sumN f (grX lo hi c0 (sumN f hi)) = c0 := by
  refine ⟨fun t ht => ?_, ?_⟩
  · obtain ⟨a, b⟩ := gr_inv h h1 h2 t (by omega)
    have hh := h t ht
    show lo t ≤ max (lo t) (grL lo hi c0 (sumN f hi) t - (sumN f hi - (sumN t hi + hi t))) ∧ max (lo t) (grL lo hi c0 (sumN f hi) t - (sumN f hi - (sumN t hi + hi t))) ≤ hi t
    omega
  · obtain ⟨a, b⟩ := gr_inv h h1 h2 f (Nat.le_refl f)
    have := grL_sum (lo := lo) (hi := hi) (c0 := c0) (H := sumN f hi) f
    omega
/-- no row lies before it -/
theorem gr_least {lo hi v : Nat → Int} {c0 : Int} {f t : Nat} (ht : t < f) (hv : ∀ t, t < f → lo t ≤ v t ∧ v t ≤ hi t) (hs : sumN f v = c0) (he : ∀ s, s < t → v s = grX lo hi c0 (sumN f hi) s) : grX lo hi c0 (sumN f hi) t ≤ v t := by
  have e1 := grL_sum (lo := lo) (hi := hi) (c0 := c0) (H := sumN f hi) t
  rw [← sumN_congr he] at e1
  have h1 := hv t ht
  have h2 := sumN_split (g := v) (show t + 1 ≤ f by omega)
  have h3 := sumN_split (g := hi) (show t + 1 ≤ f by omega)
  have h4 := sumN_le (g := fun j => v (t + 1 + j)) (h := fun j => hi (t + 1 + j)) (n := f - (t + 1)) fun i hi => (hv _ (by omega)).2
  have h5 : sumN (t + 1) v = sumN t v + v t := rfl
  show max (lo t) (grL lo hi c0 (sumN f hi) t - (sumN f hi - sumN (t + 1) hi)) ≤ v t
  omega
/-- lists by their first difference -/
theorem lexGt_false : ∀ {ns ms : List Int}, ns.length = ms.length → (∀ i, i < ns.length → (∀ j, j < i → gI ns j = gI ms j) → gI ns i ≤ gI ms i) → lexGt ns ms = false
  | [], _, _, _ => rfl
  | n :: ns, [], h, _ => by simp at h
  | n :: ns, m :: ms, h, hl => by
    have h0 := hl 0 (by simp) (fun j hj => absurd hj (by omega))
    have h0' : n ≤ m := h0
    show (if n = m then lexGt ns ms else decide (m < n)) = false
    by_cases e : n = m
    · rw [if_pos e]
      refine lexGt_false (by simpa using h) fun i hi hj => ?_
      have := hl (i + 1) (by simpa using hi) fun j hj' => by
        cases j with
        | zero => exact e
        | succ j => exact hj j (by omega)
      exact this
    · rw [if_neg e]
      exact decide_eq_false (by omega)
end DM
/-! DM4: how large the tables grow; bounds of rises; loops over a dict. -/
namespace DM
open PySem PySem.Spec L2 DL
theorem nodup_len : ∀ (n : Nat) (a : Int) (l : List Int), l.Nodup → (∀ x ∈ l, a ≤ x ∧ x < a + n) → l.length ≤ n
  | 0, a, [], _, _ => Nat.le_refl _
  | 0, a, x :: l, _, h => by
    have := h x List.mem_cons_self
    omega
  | n + 1, a, l, hn, h => by
    have h2 := nodup_len n a (l.erase (a + n)) (hn.erase _) fun x hx => by
      have h3 := (List.Nodup.mem_erase_iff hn).mp hx
      have h4 := h x h3.2
      have h5 := h3.1
      omega
    have h6 : l.length ≤ (l.erase (a + n)).length + 1 := by
      rw [List.length_erase]
      split <;> omega
    omega
def KIn (A B : Int) (t : Tab) : Prop := (t.map (·.1)).Nodup ∧ ∀ p ∈ t, A ≤ p.1 ∧ p.1 < B
theorem KIn.len {A B : Int} {t : Tab} (h : KIn A B t) : t.length ≤ (B - A).toNat := by
  have := nodup_len (B - A).toNat A (t.map (·.1)) h.1 fun x hx => by
    obtain ⟨p, hp, rfl⟩ := List.mem_map.mp hx
    have := h.2 p hp
    omega
  rwa [List.length_map] at this
theorem KIn.put {A B k v : Int} {t : Tab} (h : KIn A B t) (h1 : A ≤ k) (h2 : k < B) : KIn A B (tput t k v) := by
  unfold tput
  split
  · refine ⟨?_, fun p hp => ?_⟩
    · rw [List.map_map, List.map_congr_left (g := (·.1)) fun p _ => ?_]
      · exact h.1
      · show (if p.1 = k then (p.1, v) else p).1 = p.1
        split <;> rfl
    · obtain ⟨q, hq, rfl⟩ := List.mem_map.mp hp
      have := h.2 q hq
      split <;> exact this
  · rename_i hn
    refine ⟨?_, fun p hp => ?_⟩
    · rw [List.map_append, List.nodup_append]
      refine ⟨h.1, by simp, fun a ha b hb => ?_⟩
      have hb : b = k := by simpa using hb
      subst hb
      intro e
      subst e
      obtain ⟨p, hp, e⟩ := List.mem_map.mp ha
      exact hn (List.any_eq_true.mpr ⟨p, hp, decide_eq_true e⟩)
    · rcases List.mem_append.mp hp with z | z
      · exact h.2 p z
      · rw [List.mem_singleton.mp z]; exact ⟨h1, h2⟩
theorem KIn.row {A B s m lo : Int} : ∀ {n : Nat} {t : Tab}, KIn A B t → A ≤ s + lo → s + lo + n ≤ B → KIn A B (trow s m lo n t)
  | 0, t, h, _, _ => h
  | n + 1, t, h, h1, h2 => (KIn.row (n := n) h h1 (by omega)).put (by omega) (by omega)
theorem KIn.fold {A B A' B' lo : Int} {n : Nat} : ∀ {t : Tab} {u : Tab}, (∀ p ∈ t, A ≤ p.1 ∧ p.1 < B) → A' ≤ A + lo → B + lo + n ≤ B' → KIn A' B' u → KIn A' B' (t.foldl (fun u p => trow p.1 p.2 lo n u) u)
  | [], u, _, _, _, h => h
  | p :: t, u, hp, h1, h2, h => by
    have := hp p List.mem_cons_self
    exact KIn.fold (t := t) (fun q hq => hp q (List.mem_cons_of_mem _ hq)) h1 h2 (h.row (by omega) (by omega))
theorem KIn.nil {A B : Int} : KIn A B [] := ⟨by simp, fun p hp => by cases hp⟩
theorem KIn.step {A B lo : Int} {n : Nat} {t : Tab} (h : KIn A B t) : KIn (A + lo) (B + lo + n) (tstep lo n t) := KIn.fold h.2 (Int.le_refl _) (Int.le_refl _) .nil
/-- narrow spans -/
def Nar (k : Nat) (ss : List (Int × Int)) : Prop := ∀ s ∈ ss, s.2 + 1 - s.1 ≤ k ∧ -100000 ≤ s.1 ∧ s.1 ≤ 100000 ∧ -100000 ≤ s.2 ∧ s.2 ≤ 100000
theorem tabS_kin {k : Nat} (ss : List (Int × Int)) : Nar k ss → ∃ A B, KIn A B (tabS ss) ∧ B - A ≤ 1 + ss.length * k := by
  refine rev_ind (P := fun ss => Nar k ss → ∃ A B, KIn A B (tabS ss) ∧ B - A ≤ 1 + ss.length * k) (fun _ => ?_) (fun xs x ih h => ?_) ss
  · refine ⟨0, 1, ⟨by simp [tabS], fun p hp => ?_⟩, by simp⟩
    rw [List.mem_singleton.mp hp]
    exact ⟨by decide, by decide⟩
  · obtain ⟨A, B, h1, h2⟩ := ih fun s hs => h s (List.mem_append.mpr (.inl hs))
    have hx := h x (List.mem_append.mpr (.inr (List.mem_singleton.mpr rfl)))
    rw [tabS_snoc]
    refine ⟨_, _, h1.step, ?_⟩
    rw [List.length_append, List.length_singleton]
    have e : ((xs.length + 1 : Nat) : Int) * (k : Int) = xs.length * k + k := by rw [Int.natCast_add, Int.add_mul]; simp
    rw [e]
    omega
/-- .. and all that stands on the way is small -/
theorem tab_few {ss : List (Int × Int)} {s q : Int × Int} {i j k n : Nat} {t : Tab} (hn : Nar 10 ss) (hs : s ∈ ss) (h1 : ss.length ≤ 100) (ht : t = tabS (ss.take i)) (hq : t[j]? = some q) (en : n = (s.2 + 1 - s.1).toNat) (hk : k ≤ n) : few (trow q.1 q.2 s.1 k ((t.take j).foldl (fun u p => trow p.1 p.2 s.1 n u) [])).length = true := by
  subst ht
  obtain ⟨A, B, h2, h3⟩ := tabS_kin (k := 10) (ss.take i) fun s hs => hn s (List.mem_of_mem_take hs)
  have hl : (ss.take i).length ≤ 100 := Nat.le_trans (List.length_take_le' _ _) h1
  have hq' := h2.2 q (List.mem_of_getElem? hq)
  have h4 : KIn (A + s.1) (B + s.1 + n) ((((tabS (ss.take i)).take j)).foldl (fun u p => trow p.1 p.2 s.1 n u) []) := KIn.fold (fun p hp => h2.2 p (List.mem_of_mem_take hp)) (Int.le_refl _) (Int.le_refl _) .nil
  have h5 : KIn (A + s.1) (B + s.1 + n) (trow q.1 q.2 s.1 k (((tabS (ss.take i)).take j).foldl (fun u p => trow p.1 p.2 s.1 n u) [])) := h4.row (by omega) (by omega)
  have h6 := h5.len
  have h7 := (hn s hs).1
  refine few_of (Nat.le_trans h6 ?_)
  generalize (ss.take i).length = z at *
  omega
theorem Rf_bd {f : Nat} {c : Nat → Int} {M : Int} (h : ∀ i, 0 ≤ c i ∧ c i ≤ M) : ∀ p, -(M * p) ≤ Rf f c p ∧ Rf f c p ≤ M * p := by
  intro p
  have hM : 0 ≤ M := by have := h 0; omega
  induction p using Nat.strongRecOn with
  | ind p ih =>
    have hMp : 0 ≤ M * (p : Int) := Int.mul_nonneg hM (by omega)
    rw [Rf]
    split
    · omega
    · rename_i hc
      have e := ih (p - f) (by omega)
      have a := h (p - f + 1)
      have b := h (p - f)
      have hle : M * ((p - f : Nat) : Int) + M ≤ M * (p : Int) := by
        have : M * (((p - f : Nat) : Int) + 1) ≤ M * (p : Int) := Int.mul_le_mul_of_nonneg_left (by omega) hM
        rw [Int.mul_add, Int.mul_one] at this
        exact this
      omega
def CB (cs : List Int) : Prop := ∀ x ∈ cs, 0 ≤ x ∧ x ≤ 1000
theorem CB.get {cs : List Int} (h : CB cs) (i : Nat) : 0 ≤ gI cs i ∧ gI cs i ≤ 1000 := by
  unfold gI
  rw [List.getD]
  cases q : cs[i]? with
  | none => exact ⟨by decide, by decide⟩
  | some x => exact h x (List.mem_of_getElem? q)
theorem SPL_nar {P f cap : Nat} {cs : List Int} (hf : 1 ≤ f) (hP : f ≤ P) (h24 : P ≤ 24) (hcap : cap ≤ 9) (h : CB cs) : Nar 10 (SPL cap f (gI cs) P) := by
  intro s hs
  obtain ⟨t, ht, rfl⟩ := List.mem_map.mp hs
  have ht := List.mem_range.mp ht
  obtain ⟨p, p1, p2, p3⟩ := loS_at (c := gI cs) hf hP ht
  obtain ⟨q, q1, q2, q3⟩ := hiS_at (c := gI cs) (cap := (cap : Int)) hf hP ht
  have b1 := Rf_bd (f := f) h.get p
  have b2 := Rf_bd (f := f) h.get q
  have g1 := loS_le (c := gI cs) hf hP (show t < P by omega)
  have g2 := hiS_ge (c := gI cs) (cap := (cap : Int)) hf hP (show t < P by omega)
  rw [Nat.mod_eq_of_lt ht, Rf_zero ht] at g1 g2
  dsimp only
  refine ⟨?_, ?_, ?_, ?_, ?_⟩ <;> omega
/-! ### loops over a dict -/
section
variable {ρ ρ' : Rho} {c : Dr}
theorem forD_run {g : Int × D → D} {i : Nat} {tg : D → Rho → Option Rho} {body : SS} {kvs : List (Int × D)} (st : Nat → Rho) (e : ρ[i]? = some (.od kvs)) (h1 : ρ.set i (.fd kvs) = st 0)
    (h2 : ∀ j p, kvs[j]? = some p → ∃ ρ1, tg (g p) (st j) = some ρ1 ∧ body ρ1 c = some (.nx, st (j + 1), c)) (h3 : noFd ((st kvs.length).set i .un) = true) (h4 : (st kvs.length).set i .un = ρ') : sForD g i tg body ρ c = some (.nx, ρ', c) := by
  unfold sForD
  rw [e]
  show (forS tg body (kvs.map g) (ρ.set i (.fd kvs)) c).bind _ = _
  have := forS_run (xs := kvs.map g) (tg := tg) (body := body) st (fun _ => c) fun j x hx => by
    rw [List.getElem?_map] at hx
    obtain ⟨p, e1, rfl⟩ := Option.map_eq_some_iff.mp hx
    exact h2 j p e1
  rw [List.length_map] at this
  rw [h1, this]
  show (if noFd ((st kvs.length).set i .un) = true then some (Fl.nx, (st kvs.length).set i .un, c) else none) = _
  rw [if_pos h3, h4]
end
theorem tabD_len {t : Tab} : (tabD t).length = t.length := by unfold tabD; rw [List.length_map]
theorem tabD_get {t : Tab} {j : Nat} {p : Int × D} (h : (tabD t)[j]? = some p) : ∃ q, t[j]? = some q ∧ p = (q.1, .int q.2) := by
  unfold tabD at h
  rw [List.getElem?_map] at h
  obtain ⟨q, e1, e2⟩ := Option.map_eq_some_iff.mp h
  exact ⟨q, e1, e2.symm⟩
theorem take_succ_get {α : Type} {xs : List α} {j : Nat} {x : α} (h : xs[j]? = some x) : xs.take (j + 1) = xs.take j ++ [x] := by
  obtain ⟨h1, h2⟩ := List.getElem?_eq_some_iff.mp h
  rw [List.take_succ, h]
  rfl
/-- of distinct keys, each key's value is its own -/
theorem tlook_of_mem : ∀ {t : Tab} {q : Int × Int}, (t.map (·.1)).Nodup → q ∈ t → kvLook (tabD t) q.1 = some (.int q.2)
  | [], _, _, h => by cases h
  | p :: t, q, hn, h => by
    rw [List.map_cons, List.nodup_cons] at hn
    unfold kvLook tabD
    rw [List.map_cons, List.find?_cons]
    rcases List.mem_cons.mp h with e | e
    · subst e; simp
    · have hne : ¬ p.1 = q.1 := fun z => hn.1 (by rw [z]; exact List.mem_map_of_mem e)
      simp only [hne, decide_false]
      exact tlook_of_mem hn.2 e
end DM
/-! DM5: all lots, how many are right, the first of them. -/
namespace DM
open PySem PySem.Spec L2 DL
def lotsN (cap : Nat) : Nat → List (List Int)
  | 0 => [[]]
  | n + 1 => (lotsN cap n).flatMap fun lot => (List.range (cap + 1)).map fun (x : Nat) => lot ++ [(x : Int)]
theorem mem_lots {cap : Nat} : ∀ {n : Nat} {lot : List Int}, lot ∈ lotsN cap n ↔ lot.length = n ∧ ∀ x ∈ lot, 0 ≤ x ∧ x ≤ (cap : Int)
  | 0, lot => by
    unfold lotsN
    rw [List.mem_singleton]
    constructor
    · rintro rfl; exact ⟨rfl, fun _ h => by cases h⟩
    · rintro ⟨h, _⟩; exact List.length_eq_zero_iff.mp h
  | n + 1, lot => by
    unfold lotsN
    simp only [List.mem_flatMap, List.mem_map, List.mem_range]
    constructor
    · rintro ⟨l, hl, x, hx, rfl⟩
      obtain ⟨h1, h2⟩ := mem_lots.mp hl
      refine ⟨by rw [List.length_append, h1]; rfl, fun y hy => ?_⟩
      rcases List.mem_append.mp hy with z | z
      · exact h2 y z
      · rw [List.mem_singleton.mp z]; omega
    · rintro ⟨h1, h2⟩
      have hne : lot ≠ [] := fun z => by rw [z] at h1; cases h1
      have hlast := h2 _ (List.getLast_mem hne)
      refine ⟨lot.dropLast, mem_lots.mpr ⟨by rw [List.length_dropLast, h1]; rfl, fun x hx => h2 x ((List.dropLast_sublist lot).subset hx)⟩, (lot.getLast hne).toNat, by omega, ?_⟩
      rw [show (((lot.getLast hne).toNat : Nat) : Int) = lot.getLast hne by omega]
      exact List.dropLast_concat_getLast hne
theorem lots_len {cap : Nat} : ∀ {n : Nat}, (lotsN cap n).length = (cap + 1) ^ n
  | 0 => rfl
  | n + 1 => by
    unfold lotsN
    rw [List.length_flatMap]
    have : (lotsN cap n).map (fun lot => ((List.range (cap + 1)).map fun (x : Nat) => lot ++ [(x : Int)]).length) = (lotsN cap n).map fun _ => cap + 1 := List.map_congr_left fun l _ => by simp
    rw [this, List.map_const', List.sum_replicate_nat, lots_len (n := n), Nat.pow_succ]
/-! order -/
theorem lexGt_app {a b c d : List Int} (hl : a.length = b.length) (h : lexGt a b = true) : lexGt (a ++ c) (b ++ d) = true := by
  induction a generalizing b with
  | nil => cases b <;> simp [lexGt] at h
  | cons x a ih =>
    cases b with
    | nil => simp at hl
    | cons y b =>
      have h' : (if x = y then lexGt a b else decide (y < x)) = true := h
      show (if x = y then lexGt (a ++ c) (b ++ d) else decide (y < x)) = true
      split at h'
      · rename_i e
        rw [if_pos e]
        exact ih (by simpa using hl) h'
      · rename_i e
        rw [if_neg e]; exact h'
theorem lexGt_same {a : List Int} {x y : Int} (h : x < y) : lexGt (a ++ [y]) (a ++ [x]) = true := by
  induction a with
  | nil =>
    show (if y = x then lexGt [] [] else decide (x < y)) = true
    rw [if_neg (by omega)]
    exact decide_eq_true h
  | cons z a ih =>
    show (if z = z then lexGt (a ++ [y]) (a ++ [x]) else decide (z < z)) = true
    rw [if_pos rfl]; exact ih
theorem lexGt_irr : ∀ a : List Int, lexGt a a = false
  | [] => rfl
  | x :: a => by
    show (if x = x then lexGt a a else decide (x < x)) = false
    rw [if_pos rfl, lexGt_irr a]
theorem pw_flat {α β : Type} {R : β → β → Prop} {g : α → List β} : ∀ {l : List α}, (∀ a ∈ l, (g a).Pairwise R) → l.Pairwise (fun a b => ∀ x ∈ g a, ∀ y ∈ g b, R x y) → (l.flatMap g).Pairwise R
  | [], _, _ => List.Pairwise.nil
  | a :: l, h1, h2 => by
    rw [List.flatMap_cons, List.pairwise_append]
    rw [List.pairwise_cons] at h2
    refine ⟨h1 a List.mem_cons_self, pw_flat (fun b hb => h1 b (List.mem_cons_of_mem _ hb)) h2.2, fun x hx y hy => ?_⟩
    obtain ⟨b, hb, hy⟩ := List.mem_flatMap.mp hy
    exact h2.1 b hb x hx y hy
theorem lots_sorted {cap : Nat} : ∀ n : Nat, (lotsN cap n).Pairwise fun a b => lexGt b a = true
  | 0 => by unfold lotsN; simp
  | n + 1 => by
    unfold lotsN
    refine pw_flat (fun lot _ => ?_) ?_
    · rw [List.pairwise_map]
      refine List.Pairwise.imp (fun {x y} h => ?_) List.pairwise_lt_range
      exact lexGt_same (by omega)
    · refine List.Pairwise.imp_of_mem (fun {a b} ha hb h x hx y hy => ?_) (lots_sorted n)
      obtain ⟨i, _, rfl⟩ := List.mem_map.mp hx
      obtain ⟨j, _, rfl⟩ := List.mem_map.mp hy
      exact lexGt_app ((mem_lots.mp hb).1.trans (mem_lots.mp ha).1.symm) h
theorem lots_nodup {cap n : Nat} : (lotsN cap n).Nodup := List.Pairwise.imp (fun {a b} h e => by subst e; rw [lexGt_irr] at h; cases h) (lots_sorted n)
/-- the first right one -/
theorem head_least {l : List (List Int)} {p : List Int → Bool} {g : List Int} (hs : l.Pairwise fun a b => lexGt b a = true) (hg : g ∈ l) (hp : p g = true) (hl : ∀ h ∈ l, p h = true → lexGt g h = false) : (l.filter p).head? = some g := by
  have hm : g ∈ l.filter p := List.mem_filter.mpr ⟨hg, hp⟩
  cases e : l.filter p with
  | nil => rw [e] at hm; cases hm
  | cons h r =>
    rw [e] at hm
    rcases List.mem_cons.mp hm with z | z
    · rw [z]; rfl
    · have hpw : (l.filter p).Pairwise fun a b => lexGt b a = true := List.Pairwise.filter _ hs
      rw [e, List.pairwise_cons] at hpw
      have h1 := hpw.1 g z
      have h2 : h ∈ l.filter p := by rw [e]; exact List.mem_cons_self
      rw [hl h (List.mem_filter.mp h2).1 (List.mem_filter.mp h2).2] at h1
      cases h1
/-! counting -/
theorem tlook_cons {p : Int × Int} {t : Tab} {v : Int} : tlook (p :: t) v = if p.1 = v then p.2 else tlook t v := by
  unfold tlook
  by_cases h : p.1 = v
  · simp [h]
  · simp [h]
theorem tlook_no {t : Tab} {v : Int} (h : v ∉ t.map (·.1)) : tlook t v = 0 := by
  unfold tlook
  rw [List.find?_eq_none.mpr fun p hp => ?_]
  · rfl
  · intro e
    exact h (List.mem_map.mpr ⟨p, hp, of_decide_eq_true e⟩)
theorem sumN_add {g h : Nat → Int} : ∀ {n : Nat}, sumN n (fun j => g j + h j) = sumN n g + sumN n h
  | 0 => rfl
  | n + 1 => by
    show sumN n (fun j => g j + h j) + (g n + h n) = sumN n g + g n + (sumN n h + h n)
    rw [sumN_add]
    omega
theorem sumN_one {s m w lo : Int} : ∀ {n : Nat}, sumN n (fun j => if s = w - (lo + j) then m else 0) = if lo ≤ w - s ∧ w - s < lo + n then m else 0
  | 0 => by rw [if_neg (by omega)]; rfl
  | n + 1 => by
    show sumN n (fun j => if s = w - (lo + j) then m else 0) + (if s = w - (lo + n) then m else 0) = _
    rw [sumN_one]
    by_cases h : s = w - (lo + n)
    · rw [if_pos h, if_neg (by omega), if_pos (by omega)]; omega
    · rw [if_neg h]
      by_cases h2 : lo ≤ w - s ∧ w - s < lo + n
      · rw [if_pos h2, if_pos (by omega)]; omega
      · rw [if_neg h2, if_neg (by omega)]; rfl
def rowSum (lo : Int) (n : Nat) (w : Int) : Tab → Int
  | [] => 0
  | p :: t => (if lo ≤ w - p.1 ∧ w - p.1 < lo + n then p.2 else 0) + rowSum lo n w t
theorem fold_look {lo w : Int} {n : Nat} : ∀ {t u : Tab}, tlook (t.foldl (fun u p => trow p.1 p.2 lo n u) u) w = tlook u w + rowSum lo n w t
  | [], u => by show tlook u w = _ + 0; omega
  | p :: t, u => by
    rw [List.foldl_cons, fold_look, trow_look]
    show _ = tlook u w + (_ + rowSum lo n w t)
    omega
theorem rowSum_eq {lo w : Int} {n : Nat} : ∀ {t : Tab}, (t.map (·.1)).Nodup → rowSum lo n w t = sumN n fun j => tlook t (w - (lo + j))
  | [], _ => by
    have : sumN n (fun j => tlook [] (w - (lo + j))) = sumN n fun _ => (0 : Int) := sumN_congr fun i _ => rfl
    rw [this, sumN_const]
    show (0 : Int) = _
    omega
  | p :: t, h => by
    rw [List.map_cons, List.nodup_cons] at h
    show _ + rowSum lo n w t = _
    rw [rowSum_eq h.2, ← sumN_one, ← sumN_add]
    refine sumN_congr fun j _ => ?_
    rw [tlook_cons]
    by_cases e : p.1 = w - (lo + j)
    · rw [if_pos e, if_pos e, ← e, tlook_no h.1]; omega
    · rw [if_neg e, if_neg e]; omega
theorem step_look {lo w : Int} {n : Nat} {t : Tab} (h : (t.map (·.1)).Nodup) : tlook (tstep lo n t) w = sumN n fun j => tlook t (w - (lo + j)) := by
  unfold tstep
  rw [fold_look, rowSum_eq h]
  show 0 + _ = _
  omega
/-- how many of a list give a number -/
def cntOf {α : Type} (l : List α) (p : α → Bool) : Int := ((l.filter p).length : Nat)
theorem cntOf_cons {α : Type} {x : α} {l : List α} {p : α → Bool} : cntOf (x :: l) p = (if p x = true then 1 else 0) + cntOf l p := by
  unfold cntOf
  by_cases h : p x = true
  · rw [List.filter_cons_of_pos h, if_pos h, List.length_cons]; omega
  · rw [List.filter_cons_of_neg h, if_neg h]; omega
theorem cntOf_app {α : Type} {l m : List α} {p : α → Bool} : cntOf (l ++ m) p = cntOf l p + cntOf m p := by
  unfold cntOf
  rw [List.filter_append, List.length_append]
  omega
theorem cntOf_split {α : Type} {l : List α} {p : α → Bool} {g : α → Int} {a : Int} : ∀ {n : Nat}, cntOf l (fun x => p x && decide (a ≤ g x ∧ g x < a + n)) = sumN n fun j => cntOf l fun x => p x && decide (g x = a + j)
  | 0 => by
    show _ = (0 : Int)
    unfold cntOf
    rw [List.filter_eq_nil_iff.mpr fun x _ => ?_]
    · rfl
    · rw [decide_eq_false (by omega)]
      simp
  | n + 1 => by
    show _ = sumN n _ + cntOf l _
    rw [← cntOf_split]
    induction l with
    | nil => rfl
    | cons x l ih =>
      rw [cntOf_cons, cntOf_cons, cntOf_cons, ih]
      have : (if (p x && decide (a ≤ g x ∧ g x < a + ((n + 1 : Nat) : Int))) = true then (1 : Int) else 0) = (if (p x && decide (a ≤ g x ∧ g x < a + (n : Int))) = true then 1 else 0) + (if (p x && decide (g x = a + (n : Int))) = true then 1 else 0) := by
        cases p x with
        | false => simp
        | true =>
          simp only [Bool.true_and, decide_eq_true_eq]
          by_cases h1 : g x = a + n
          · rw [if_pos (by omega), if_neg (by omega), if_pos h1]; rfl
          · by_cases h2 : a ≤ g x ∧ g x < a + n
            · rw [if_pos (by omega), if_pos h2, if_neg h1]; rfl
            · rw [if_neg (by omega), if_neg h2, if_neg h1]; rfl
      rw [this]
      omega
/-- each number within its span -/
def okLot (ss : Nat → Int × Int) (lot : List Int) : Bool := (List.range lot.length).all fun t => decide ((ss t).1 ≤ gI lot t ∧ gI lot t ≤ (ss t).2)
theorem gI_app {a b : List Int} {t : Nat} (h : t < a.length) : gI (a ++ b) t = gI a t := by
  unfold gI
  rw [List.getD, List.getD, List.getElem?_append_left h]
theorem gI_last {a : List Int} {x : Int} : gI (a ++ [x]) a.length = x := by
  unfold gI
  rw [List.getD, List.getElem?_append_right (Nat.le_refl _), Nat.sub_self]
  rfl
theorem okLot_snoc {ss : Nat → Int × Int} {lot : List Int} {x : Int} : okLot ss (lot ++ [x]) = (okLot ss lot && decide ((ss lot.length).1 ≤ x ∧ x ≤ (ss lot.length).2)) := by
  unfold okLot
  rw [List.length_append, List.length_singleton, List.range_succ, List.all_append]
  congr 1
  · rw [Bool.eq_iff_iff, List.all_eq_true, List.all_eq_true]
    constructor
    · intro h t ht
      have := h t ht
      rwa [gI_app (List.mem_range.mp ht)] at this
    · intro h t ht
      have := h t ht
      rwa [gI_app (List.mem_range.mp ht)]
  · simp only [List.all_cons, List.all_nil, Bool.and_true]
    rw [gI_last]
theorem okLot_iff {ss : Nat → Int × Int} {lot : List Int} : okLot ss lot = true ↔ ∀ t, t < lot.length → (ss t).1 ≤ gI lot t ∧ gI lot t ≤ (ss t).2 := by
  unfold okLot
  rw [List.all_eq_true]
  constructor
  · intro h t ht
    exact of_decide_eq_true (h t (List.mem_range.mpr ht))
  · intro h t ht
    exact decide_eq_true (h t (List.mem_range.mp ht))
theorem one_count {lo hi v : Int} {cap : Nat} (h0 : 0 ≤ lo) (h1 : hi ≤ cap) (b : Bool) : cntOf ((List.range (cap + 1)).map fun (x : Nat) => (x : Int)) (fun x => b && decide (lo ≤ x ∧ x ≤ hi) && decide (x = v)) = if (b && decide (lo ≤ v ∧ v ≤ hi)) = true then 1 else 0 := by
  have gen : ∀ n : Nat, cntOf ((List.range n).map fun (x : Nat) => (x : Int)) (fun x => b && decide (lo ≤ x ∧ x ≤ hi) && decide (x = v)) = if (b && decide (lo ≤ v ∧ v ≤ hi)) = true ∧ v < n then 1 else 0 := by
    intro n
    induction n with
    | zero =>
      rw [if_neg fun z => ?_]
      · rfl
      · obtain ⟨z1, z2⟩ := z
        rw [Bool.and_eq_true, decide_eq_true_eq] at z1
        omega
    | succ n ih =>
      rw [List.range_succ, List.map_append, cntOf_app, ih, List.map_singleton, cntOf_cons]
      show _ + (_ + 0) = _
      cases b with
      | false => simp
      | true =>
        simp only [Bool.true_and, Bool.and_eq_true, decide_eq_true_eq]
        by_cases e : (n : Int) = v
        · subst e
          by_cases z : lo ≤ (n : Int) ∧ (n : Int) ≤ hi
          · rw [if_neg (by omega), if_pos ⟨z, rfl⟩, if_pos ⟨z, by omega⟩]; rfl
          · rw [if_neg fun q => z q.1, if_neg fun q => z q.1, if_neg fun q => z q.1]; rfl
        · by_cases z : (lo ≤ v ∧ v ≤ hi) ∧ v < n
          · rw [if_pos z, if_neg fun q => e q.2, if_pos ⟨z.1, by omega⟩]; rfl
          · rw [if_neg z, if_neg fun q => e q.2, if_neg fun q => z ⟨q.1, by omega⟩]; rfl
  rw [gen]
  by_cases z : (b && decide (lo ≤ v ∧ v ≤ hi)) = true
  · have z' := z
    rw [Bool.and_eq_true, decide_eq_true_eq] at z'
    rw [if_pos ⟨z, by omega⟩, if_pos z]
  · rw [if_neg fun q => z q.1, if_neg z]
theorem lots_count {cap : Nat} {ss : Nat → Int × Int} : ∀ {n : Nat}, (∀ t, t < n → 0 ≤ (ss t).1 ∧ (ss t).2 ≤ cap) → (∀ s ∈ (List.range n).map ss, s.2 + 1 - s.1 ≤ 100 ∧ -100000 ≤ s.1 ∧ s.1 ≤ 100000 ∧ -100000 ≤ s.2 ∧ s.2 ≤ 100000) → ∀ w, cntOf (lotsN cap n) (fun lot => okLot ss lot && decide (lot.sum = w)) = tlook (tabS ((List.range n).map ss)) w
  | 0, _, _, w => by
    unfold lotsN
    rw [cntOf_cons]
    show (if (okLot ss [] && decide (([] : List Int).sum = w)) = true then (1 : Int) else 0) + 0 = tlook [(0, 1)] w
    rw [tlook_cons]
    have : okLot ss [] = true := rfl
    rw [this, Bool.true_and]
    by_cases e : (0 : Int) = w
    · rw [if_pos (decide_eq_true (by simpa using e)), if_pos e]; rfl
    · rw [if_neg (by rw [decide_eq_true_eq]; exact e), if_neg e]; rfl
  | n + 1, hb, hn, w => by
    have ih := lots_count (cap := cap) (ss := ss) (n := n) (fun t ht => hb t (by omega)) (fun s hs => hn s (by rw [List.range_succ, List.map_append]; exact List.mem_append.mpr (.inl hs)))
    obtain ⟨b1, b2⟩ := hb n (by omega)
    rw [List.range_succ, List.map_append, List.map_singleton, tabS_snoc]
    obtain ⟨A, B, hk, _⟩ := tabS_kin (k := 100) ((List.range n).map ss) fun s hs => hn s (by rw [List.range_succ, List.map_append]; exact List.mem_append.mpr (.inl hs))
    rw [step_look hk.1]
    have e1 : (sumN ((ss n).2 + 1 - (ss n).1).toNat fun j => tlook (tabS ((List.range n).map ss)) (w - ((ss n).1 + j))) = sumN ((ss n).2 + 1 - (ss n).1).toNat fun j => cntOf (lotsN cap n) fun lot => okLot ss lot && decide (w - lot.sum = (ss n).1 + j) := sumN_congr fun j _ => by
      rw [← ih]
      unfold cntOf
      congr 3
      funext lot
      congr 1
      rw [decide_eq_decide]
      omega
    rw [e1, ← cntOf_split]
    have e2 : ∀ L : List (List Int), (∀ l ∈ L, l.length = n) → cntOf (L.flatMap fun lot => (List.range (cap + 1)).map fun (x : Nat) => lot ++ [(x : Int)]) (fun lot => okLot ss lot && decide (lot.sum = w)) = cntOf L fun lot => okLot ss lot && decide ((ss n).1 ≤ w - lot.sum ∧ w - lot.sum < (ss n).1 + (((ss n).2 + 1 - (ss n).1).toNat : Nat)) := by
      intro L hL
      induction L with
      | nil => rfl
      | cons l L ihL =>
        rw [List.flatMap_cons, cntOf_app, cntOf_cons, ihL fun x hx => hL x (List.mem_cons_of_mem _ hx)]
        have hl := hL l List.mem_cons_self
        have e3 : cntOf ((List.range (cap + 1)).map fun (x : Nat) => l ++ [(x : Int)]) (fun lot => okLot ss lot && decide (lot.sum = w)) = cntOf ((List.range (cap + 1)).map fun (x : Nat) => (x : Int)) (fun x => okLot ss l && decide ((ss n).1 ≤ x ∧ x ≤ (ss n).2) && decide (x = w - l.sum)) := by
          unfold cntOf
          rw [List.filter_map, List.filter_map, List.length_map, List.length_map]
          congr 3
          funext x
          show (okLot ss (l ++ [(x : Int)]) && decide ((l ++ [(x : Int)]).sum = w)) = (okLot ss l && decide ((ss n).1 ≤ (x : Int) ∧ (x : Int) ≤ (ss n).2) && decide ((x : Int) = w - l.sum))
          rw [okLot_snoc, sum_snoc, hl]
          congr 1
          rw [decide_eq_decide]
          omega
        rw [e3, one_count b1 b2]
        congr 1
        have e4 : decide ((ss n).1 ≤ w - l.sum ∧ w - l.sum ≤ (ss n).2) = decide ((ss n).1 ≤ w - l.sum ∧ w - l.sum < (ss n).1 + (((ss n).2 + 1 - (ss n).1).toNat : Nat)) := by
          rw [decide_eq_decide]
          omega
        rw [e4]
    exact e2 _ fun l hl => (mem_lots.mp hl).1
end DM
/-! DM6: the rows that a telling leaves, from either end and by what is missing. -/
namespace DM
open PySem PySem.Spec L2 DL
theorem gI_at {xs : List Int} {i : Nat} (h : i < xs.length) : gI xs i ∈ xs := by
  unfold gI
  simp [List.getD, h]
theorem gI_ext {xs ys : List Int} (hl : xs.length = ys.length) (h : ∀ i, i < xs.length → gI xs i = gI ys i) : xs = ys := by
  apply List.ext_getElem hl
  intro i h1 h2
  have := h i h1
  unfold gI at this
  simpa [List.getD, h1, h2] using this
theorem sum_gI : ∀ {n : Nat} {xs : List Int}, xs.length = n → xs.sum = sumN n (gI xs)
  | n, xs, h => by
    have : xs = (List.range n).map (gI xs) := gI_ext (by simp [h]) fun i hi => by
      rw [h] at hi
      conv => rhs; unfold gI
      simp [List.getD, hi]
      rfl
    conv => lhs; rw [this]
    exact sumN_map
def rowG (P f : Nat) (cs fs : List Int) : List Int := (List.range P).map fun p => gI fs (p % f) + Rf f (gI cs) p
theorem rowG_len {P f : Nat} {cs fs : List Int} : (rowG P f cs fs).length = P := by unfold rowG; simp
theorem rowG_get {P f p : Nat} {cs fs : List Int} (h : p < P) : gI (rowG P f cs fs) p = gI fs (p % f) + Rf f (gI cs) p := by
  unfold rowG gI
  simp [List.getD, h]
def spF (P cap f : Nat) (cs : List Int) (t : Nat) : Int × Int := (loS f (gI cs) P t, hiS (cap : Int) f (gI cs) P t)
/-- the lots that are right -/
def okV (P cap f : Nat) (cs lot : List Int) : Bool := okLot (spF P cap f cs) lot && decide (lot.sum = gI cs 0)
def VL (P cap f : Nat) (cs : List Int) : List (List Int) := (lotsN cap f).filter (okV P cap f cs)
/-- a row that may be -/
def IsRow (P cap f : Nat) (cs r : List Int) : Prop := r.length = P ∧ (∀ x ∈ r, 0 ≤ x ∧ x ≤ (cap : Int)) ∧ csL f r = cs
section
variable {P cap f : Nat} {cs : List Int}
theorem span_bd (hf : 1 ≤ f) (hP : f ≤ P) {t : Nat} (ht : t < f) : 0 ≤ loS f (gI cs) P t ∧ hiS (cap : Int) f (gI cs) P t ≤ cap := by
  have g1 := loS_le (c := gI cs) hf hP (show t < P by omega)
  have g2 := hiS_ge (c := gI cs) (cap := (cap : Int)) hf hP (show t < P by omega)
  rw [Nat.mod_eq_of_lt ht, Rf_zero ht] at g1 g2
  omega
theorem okV_iff (hf : 1 ≤ f) (hP : f ≤ P) {lot : List Int} (hl : lot.length = f) : okV P cap f cs lot = true ↔ (∀ p, p < P → 0 ≤ gI lot (p % f) + Rf f (gI cs) p ∧ gI lot (p % f) + Rf f (gI cs) p ≤ cap) ∧ lot.sum = gI cs 0 := by
  unfold okV
  rw [Bool.and_eq_true, decide_eq_true_eq, okLot_iff, hl]
  refine and_congr_left fun _ => ?_
  constructor
  · intro h p hp
    exact (span_iff hf hP (Nat.mod_lt p (by omega))).mp (h (p % f) (Nat.mod_lt p (by omega))) p hp rfl
  · intro h t ht
    exact (span_iff hf hP ht).mpr fun p hp e => by subst e; exact h p hp
theorem VL_count (hf : 1 ≤ f) (hP : f ≤ P) (h24 : P ≤ 24) (hc : cap ≤ 9) (hb : CB cs) : (((VL P cap f cs).length : Nat) : Int) = fitV P cap f (gI cs) := by
  have h := lots_count (cap := cap) (ss := spF P cap f cs) (n := f) (fun t ht => span_bd hf hP ht) (fun s hs => by
    have := SPL_nar (cap := cap) hf hP h24 hc hb s hs
    omega) (gI cs 0)
  exact h
theorem isRow_of (hf : 1 ≤ f) (hP : f ≤ P) (hlen : cs.length = P - f + 1) {lot : List Int} (h : lot ∈ VL P cap f cs) : IsRow P cap f cs (rowG P f cs lot) := by
  obtain ⟨h1, h2⟩ := List.mem_filter.mp h
  obtain ⟨hl, _⟩ := mem_lots.mp h1
  obtain ⟨h3, h4⟩ := (okV_iff hf hP hl).mp h2
  have hr : ∀ p, p < P → gI (rowG P f cs lot) p = gI (rowG P f cs lot) (p % f) + Rf f (gI cs) p := fun p hp => by
    have hm : p % f < f := Nat.mod_lt p (by omega)
    rw [rowG_get hp, rowG_get (show p % f < P by omega), Nat.mod_mod, Rf_zero hm]
    omega
  refine ⟨rowG_len, fun x hx => ?_, ?_⟩
  · obtain ⟨p, hp, rfl⟩ := List.mem_map.mp hx
    exact h3 p (List.mem_range.mp hp)
  · have e0 : sumN f (gI (rowG P f cs lot)) = gI cs 0 := by
      rw [← h4, sum_gI hl]
      refine sumN_congr fun i hi => ?_
      rw [rowG_get (by omega), Nat.mod_eq_of_lt hi, Rf_zero hi]
      omega
    have hh := rise_has hf hr e0
    refine gI_ext (by rw [csL_len, rowG_len, hlen]) fun s hs => ?_
    rw [csL_len, rowG_len] at hs
    rw [csL_get (by rw [rowG_len]; exact hs)]
    exact hh s (by omega)
theorem of_isRow (hf : 1 ≤ f) (hP : f ≤ P) {r : List Int} (h : IsRow P cap f cs r) : r.take f ∈ VL P cap f cs ∧ rowG P f cs (r.take f) = r := by
  obtain ⟨hl, hb, rfl⟩ := h
  have hh : Has f P (gI (csL f r)) (gI r) := by rw [← hl]; exact has_csL (by omega)
  have hr := has_rise hf hh
  have ht : (r.take f).length = f := by rw [List.length_take]; omega
  have hg : ∀ t, t < f → gI (r.take f) t = gI r t := fun t ht => by
    unfold gI
    simp [List.getD, List.getElem?_take, ht]
  have hm : ∀ p : Nat, p % f < f := fun p => Nat.mod_lt p (by omega)
  refine ⟨List.mem_filter.mpr ⟨mem_lots.mpr ⟨ht, fun x hx => hb x (List.mem_of_mem_take hx)⟩, (okV_iff hf hP ht).mpr ⟨fun p hp => ?_, ?_⟩⟩, ?_⟩
  · rw [hg _ (hm p), ← hr p hp]
    exact hb _ (gI_at (by omega))
  · rw [sum_gI ht, ← hh 0 (by omega)]
    unfold cnt
    exact sumN_congr fun i hi => by rw [hg i hi, Nat.zero_add]
  · refine gI_ext (by rw [rowG_len, hl]) fun p hp => ?_
    rw [rowG_len] at hp
    rw [rowG_get hp, hg _ (hm p), ← hr p hp]
end
theorem len_inj {α β : Type} [BEq β] [LawfulBEq β] {g : α → β} : ∀ {l : List α} {m : List β}, l.Nodup → (∀ x ∈ l, g x ∈ m) → (∀ x ∈ l, ∀ y ∈ l, g x = g y → x = y) → l.length ≤ m.length
  | [], m, _, _, _ => Nat.zero_le _
  | x :: l, m, hn, hm, hi => by
    rw [List.nodup_cons] at hn
    have hx := hm x List.mem_cons_self
    have ih := len_inj (g := g) (l := l) (m := m.erase (g x)) hn.2 (fun y hy => by
      have hy' := hm y (List.mem_cons_of_mem _ hy)
      exact (List.mem_erase_of_ne fun e => hn.1 (by rw [← hi y (List.mem_cons_of_mem _ hy) x List.mem_cons_self e]; exact hy)).mpr hy') fun y hy z hz e => hi y (List.mem_cons_of_mem _ hy) z (List.mem_cons_of_mem _ hz) e
    rw [List.length_erase, if_pos hx] at ih
    have := List.length_pos_of_mem hx
    rw [List.length_cons]
    omega
theorem take_row {P f : Nat} {cs lot : List Int} (hP : f ≤ P) (hl : lot.length = f) : (rowG P f cs lot).take f = lot := by
  refine gI_ext (by rw [List.length_take, rowG_len, hl]; omega) fun t ht => ?_
  rw [List.length_take, rowG_len] at ht
  have htf : t < f := by omega
  have : gI ((rowG P f cs lot).take f) t = gI (rowG P f cs lot) t := by
    unfold gI
    simp [List.getD, List.getElem?_take, htf]
  rw [this, rowG_get (by omega), Nat.mod_eq_of_lt htf, Rf_zero htf]
  omega
/-- rows of one telling that become rows of another -/
theorem VL_le {P cap f : Nat} {cs ds : List Int} {g : List Int → List Int} (hf : 1 ≤ f) (hP : f ≤ P) (hl : cs.length = P - f + 1) (hg : ∀ r, IsRow P cap f cs r → IsRow P cap f ds (g r)) (hi : ∀ r s, IsRow P cap f cs r → IsRow P cap f cs s → g r = g s → r = s) : (VL P cap f cs).length ≤ (VL P cap f ds).length := by
  refine len_inj (g := fun lot => (g (rowG P f cs lot)).take f) (List.Nodup.sublist List.filter_sublist lots_nodup) (fun lot h => (of_isRow hf hP (hg _ (isRow_of hf hP hl h))).1) fun a ha b hb e => ?_
  have ra := isRow_of hf hP hl ha
  have rb := isRow_of hf hP hl hb
  have ea := (of_isRow hf hP (hg _ ra)).2
  have eb := (of_isRow hf hP (hg _ rb)).2
  have e' : (g (rowG P f cs a)).take f = (g (rowG P f cs b)).take f := e
  rw [e'] at ea
  have er := hi _ _ ra rb (ea.symm.trans eb)
  have la := (mem_lots.mp (List.mem_filter.mp ha).1).1
  have lb := (mem_lots.mp (List.mem_filter.mp hb).1).1
  rw [← take_row (cs := cs) hP la, ← take_row (cs := cs) hP lb, er]
theorem sumN_front {h : Nat → Int} {n : Nat} : sumN (n + 1) h = h 0 + sumN n fun j => h (1 + j) := by
  rw [sumN_split (g := h) (t := 1) (n := n + 1) (by omega), Nat.add_sub_cancel]
  show 0 + h 0 + _ = _
  omega
theorem sumN_rev : ∀ {n : Nat} {g : Nat → Int}, sumN n g = sumN n fun j => g (n - 1 - j)
  | 0, g => rfl
  | n + 1, g => by
    rw [sumN_front (h := fun j => g (n + 1 - 1 - j))]
    show sumN n g + g n = g (n + 1 - 1 - 0) + _
    rw [sumN_rev (g := g), show n + 1 - 1 - 0 = n by omega]
    have : sumN n (fun j => g (n - 1 - j)) = sumN n fun j => g (n + 1 - 1 - (1 + j)) := sumN_congr fun j _ => by rw [show n + 1 - 1 - (1 + j) = n - 1 - j by omega]
    rw [this]
    omega
theorem gI_rev {xs : List Int} {i : Nat} (h : i < xs.length) : gI xs.reverse i = gI xs (xs.length - 1 - i) := by
  unfold gI
  rw [List.getD, List.getD, List.getElem?_reverse h]
theorem csL_rev {f : Nat} {r : List Int} (hP : f ≤ r.length) : csL f r.reverse = (csL f r).reverse := by
  refine gI_ext (by rw [csL_len, List.length_reverse, List.length_reverse, csL_len]) fun s hs => ?_
  rw [csL_len, List.length_reverse] at hs
  rw [csL_get (by rw [List.length_reverse]; exact hs), gI_rev (by rw [csL_len]; exact hs), csL_len, csL_get (by omega)]
  unfold cnt
  rw [sumN_rev]
  refine sumN_congr fun j hj => ?_
  rw [gI_rev (by omega)]
  congr 1
  omega
theorem isRow_rev {P cap f : Nat} {cs r : List Int} (hP : f ≤ P) (h : IsRow P cap f cs r) : IsRow P cap f cs.reverse r.reverse := by
  obtain ⟨h1, h2, rfl⟩ := h
  exact ⟨by rw [List.length_reverse]; exact h1, fun x hx => h2 x (List.mem_reverse.mp hx), csL_rev (by omega)⟩
theorem VL_rev {P cap f : Nat} {cs : List Int} (hf : 1 ≤ f) (hP : f ≤ P) (hl : cs.length = P - f + 1) : (VL P cap f cs.reverse).length = (VL P cap f cs).length := by
  refine Nat.le_antisymm ?_ (VL_le hf hP hl (fun r h => isRow_rev hP h) fun r s _ _ e => List.reverse_inj.mp e)
  have := VL_le (P := P) (cap := cap) (f := f) (cs := cs.reverse) (ds := cs.reverse.reverse) hf hP (by rw [List.length_reverse]; exact hl) (fun r h => isRow_rev hP h) fun r s _ _ e => List.reverse_inj.mp e
  rwa [List.reverse_reverse] at this
theorem gI_map {xs : List Int} {g : Int → Int} {i : Nat} (h : i < xs.length) : gI (xs.map g) i = g (gI xs i) := by
  unfold gI
  simp [List.getD, h]
theorem sumN_sub {k : Int} {g : Nat → Int} : ∀ {n : Nat}, sumN n (fun j => k - g j) = n * k - sumN n g
  | 0 => by show (0 : Int) = 0 * k - 0; simp
  | n + 1 => by
    show sumN n (fun j => k - g j) + (k - g n) = ((n + 1 : Nat) : Int) * k - (sumN n g + g n)
    rw [sumN_sub, Int.natCast_add, Int.add_mul]
    simp
    omega
theorem isRow_less {P cap f : Nat} {cs r : List Int} (hP : f ≤ P) (h : IsRow P cap f cs r) : IsRow P cap f (cs.map fun x => (f : Int) * cap - x) (r.map fun x => (cap : Int) - x) := by
  obtain ⟨h1, h2, rfl⟩ := h
  refine ⟨by rw [List.length_map]; exact h1, fun x hx => ?_, ?_⟩
  · obtain ⟨y, hy, rfl⟩ := List.mem_map.mp hx
    have := h2 y hy
    omega
  · refine gI_ext (by rw [csL_len, List.length_map, List.length_map, csL_len]) fun s hs => ?_
    rw [csL_len, List.length_map] at hs
    rw [csL_get (by rw [List.length_map]; exact hs), gI_map (by rw [csL_len]; exact hs), csL_get hs]
    unfold cnt
    rw [← sumN_sub]
    exact sumN_congr fun j hj => gI_map (by omega)
theorem map_sub_inj {k : Int} {r s : List Int} (h : (r.map fun x => k - x) = s.map fun x => k - x) : r = s := (List.map_inj_right fun a b e => by omega).mp h
theorem VL_less {P cap f : Nat} {cs : List Int} (hf : 1 ≤ f) (hP : f ≤ P) (hl : cs.length = P - f + 1) : (VL P cap f (cs.map fun x => (f : Int) * cap - x)).length = (VL P cap f cs).length := by
  refine Nat.le_antisymm ?_ (VL_le hf hP hl (fun r h => isRow_less hP h) fun r s _ _ e => map_sub_inj e)
  have := VL_le (P := P) (cap := cap) (f := f) (cs := cs.map fun x => (f : Int) * cap - x) (ds := (cs.map fun x => (f : Int) * cap - x).map fun x => (f : Int) * cap - x) hf hP (by rw [List.length_map]; exact hl) (fun r h => isRow_less hP h) fun r s _ _ e => map_sub_inj e
  rw [List.map_map] at this
  have e : ((fun x => (f : Int) * cap - x) ∘ fun x => (f : Int) * cap - x) = id := by
    funext x
    show (f : Int) * cap - ((f : Int) * cap - x) = x
    omega
  rw [e, List.map_id] at this
  exact this
end DM
/-! DM7: ways by lists from either end. -/
namespace DM
open PySem PySem.Spec L2 DL
/-- one place more -/
def cvStep (p : Int × Int) (W : Nat → Int) : Nat → Int := fun s => sumN (min p.2 s + 1 - p.1).toNat fun j => W (s - (p.1.toNat + j))
def cvL (xs : List (Int × Int)) : Nat → Int := xs.foldl (fun W p => cvStep p W) fun s => if s = 0 then 1 else 0
theorem cvL_snoc {xs : List (Int × Int)} {p : Int × Int} : cvL (xs ++ [p]) = cvStep p (cvL xs) := by unfold cvL; rw [List.foldl_append]; rfl
theorem sumN_zero {g : Nat → Int} : ∀ {n : Nat}, (∀ j, j < n → g j = 0) → sumN n g = 0
  | 0, _ => rfl
  | n + 1, h => by
    show sumN n g + g n = 0
    rw [sumN_zero fun j hj => h j (by omega), h n (by omega)]
    rfl
theorem wayV_neg (xs : List (Int × Int)) : (∀ p ∈ xs, 0 ≤ p.1) → Nar 100 xs → ∀ w, w < 0 → wayV xs w = 0 := by
  refine rev_ind (P := fun xs => (∀ p ∈ xs, 0 ≤ p.1) → Nar 100 xs → ∀ w, w < 0 → wayV xs w = 0) (fun _ _ w hw => ?_) (fun xs p ih h0 hn w hw => ?_) xs
  · show tlook [(0, 1)] w = 0
    rw [tlook_cons, if_neg (by omega)]
    rfl
  · have ih := ih (fun q hq => h0 q (List.mem_append.mpr (.inl hq))) fun q hq => hn q (List.mem_append.mpr (.inl hq))
    have hp := h0 p (List.mem_append.mpr (.inr (List.mem_singleton.mpr rfl)))
    obtain ⟨A, B, hk, _⟩ := tabS_kin (k := 100) xs fun q hq => hn q (List.mem_append.mpr (.inl hq))
    unfold wayV at ih ⊢
    rw [tabS_snoc, step_look hk.1]
    exact sumN_zero fun j _ => ih _ (by omega)
theorem cvL_way (xs : List (Int × Int)) : (∀ p ∈ xs, 0 ≤ p.1) → Nar 100 xs → ∀ s : Nat, cvL xs s = wayV xs s := by
  refine rev_ind (P := fun xs => (∀ p ∈ xs, 0 ≤ p.1) → Nar 100 xs → ∀ s : Nat, cvL xs s = wayV xs s) (fun _ _ s => ?_) (fun xs p ih h0 hn s => ?_) xs
  · show (if s = 0 then (1 : Int) else 0) = tlook [(0, 1)] s
    rw [tlook_cons]
    by_cases e : s = 0
    · subst e; rfl
    · rw [if_neg e, if_neg (by omega)]; rfl
  · have h0' : ∀ q ∈ xs, 0 ≤ q.1 := fun q hq => h0 q (List.mem_append.mpr (.inl hq))
    have hn' : Nar 100 xs := fun q hq => hn q (List.mem_append.mpr (.inl hq))
    have ih := ih h0' hn'
    have hp := h0 p (List.mem_append.mpr (.inr (List.mem_singleton.mpr rfl)))
    obtain ⟨A, B, hk, _⟩ := tabS_kin (k := 100) xs hn'
    have hneg := wayV_neg xs h0' hn'
    rw [cvL_snoc]
    unfold wayV at ih hneg ⊢
    rw [tabS_snoc, step_look hk.1]
    unfold cvStep
    rw [sumN_split (t := (min p.2 s + 1 - p.1).toNat) (n := (p.2 + 1 - p.1).toNat) (by omega)]
    rw [sumN_zero (n := (p.2 + 1 - p.1).toNat - (min p.2 (s : Int) + 1 - p.1).toNat) fun j hj => hneg _ (by omega), Int.add_zero]
    refine sumN_congr fun j hj => ?_
    rw [ih]
    congr 1
    omega
/-! the order does not matter -/
theorem okLot_rev {n : Nat} {g : Nat → Int × Int} {lot : List Int} (hl : lot.length = n) : okLot (fun t => g (n - 1 - t)) lot.reverse = okLot g lot := by
  rw [Bool.eq_iff_iff, okLot_iff, okLot_iff, List.length_reverse, hl]
  constructor
  · intro h t ht
    have := h (n - 1 - t) (by omega)
    rw [gI_rev (by omega), hl, show n - 1 - (n - 1 - t) = t by omega] at this
    exact this
  · intro h t ht
    rw [gI_rev (by omega), hl]
    exact h (n - 1 - t) (by omega)
theorem sum_rev' {xs : List Int} : xs.reverse.sum = xs.sum := by
  induction xs with
  | nil => rfl
  | cons x xs ih => rw [List.reverse_cons, sum_snoc, ih, List.sum_cons]; omega
theorem cnt_rev_le {cap n : Nat} {g : Nat → Int × Int} {w : Int} : ((lotsN cap n).filter fun lot => okLot g lot && decide (lot.sum = w)).length ≤ ((lotsN cap n).filter fun lot => okLot (fun t => g (n - 1 - t)) lot && decide (lot.sum = w)).length := by
  refine len_inj (g := List.reverse) (List.Nodup.sublist List.filter_sublist lots_nodup) (fun lot h => ?_) fun a _ b _ e => List.reverse_inj.mp e
  obtain ⟨h1, h2⟩ := List.mem_filter.mp h
  obtain ⟨h3, h4⟩ := mem_lots.mp h1
  refine List.mem_filter.mpr ⟨mem_lots.mpr ⟨by rw [List.length_reverse]; exact h3, fun x hx => h4 x (List.mem_reverse.mp hx)⟩, ?_⟩
  rw [okLot_rev h3, sum_rev']
  exact h2
theorem wayV_rev {cap n : Nat} {g : Nat → Int × Int} (hb : ∀ t, t < n → 0 ≤ (g t).1 ∧ (g t).2 ≤ cap) (hn : Nar 100 ((List.range n).map g)) (w : Int) : wayV ((List.range n).map g).reverse w = wayV ((List.range n).map g) w := by
  have er : ((List.range n).map g).reverse = (List.range n).map fun t => g (n - 1 - t) := by
    apply List.ext_getElem
    · simp
    · intro i h1 h2
      simp
  have hn2 : Nar 100 ((List.range n).map fun t => g (n - 1 - t)) := fun s hs => by
    rw [← er] at hs
    exact hn s (List.mem_reverse.mp hs)
  have a := lots_count (cap := cap) (ss := g) (n := n) hb hn w
  have b := lots_count (cap := cap) (ss := fun t => g (n - 1 - t)) (n := n) (fun t ht => hb _ (by omega)) hn2 w
  rw [er]
  unfold wayV
  rw [← a, ← b]
  have l1 := cnt_rev_le (cap := cap) (n := n) (g := g) (w := w)
  have l2 := cnt_rev_le (cap := cap) (n := n) (g := fun t => g (n - 1 - t)) (w := w)
  have e2 : ∀ lot ∈ lotsN cap n, (okLot (fun t => g (n - 1 - (n - 1 - t))) lot && decide (lot.sum = w)) = (okLot g lot && decide (lot.sum = w)) := fun lot hlot => by
    congr 1
    have hl := (mem_lots.mp hlot).1
    rw [Bool.eq_iff_iff, okLot_iff, okLot_iff, hl]
    constructor
    · intro h t ht
      have := h t ht
      rwa [show n - 1 - (n - 1 - t) = t by omega] at this
    · intro h t ht
      rw [show n - 1 - (n - 1 - t) = t by omega]
      exact h t ht
  rw [List.filter_congr e2] at l2
  unfold cntOf
  omega
end DM
/-! DM8: things: no dicts, short, not deep. -/
namespace DM
open PySem PySem.Spec L2 DL
/-- short, plain signs alone -/
def txtOk (n : Nat) (x : Str) : Bool := decide (x.length ≤ n) && x.cps.toList.all (· < 128)
mutual
def gd (n : Nat) : D → Bool
  | .none | .bool _ | .int _ => true
  | .str x => txtOk n x
  | .list xs => decide (xs.length ≤ n) && gdA n xs
  | .tuple xs => decide (xs.length ≤ n) && gdA n xs
  | .dict _ => false
def gdA (n : Nat) : List D → Bool
  | [] => true
  | x :: xs => gd n x && gdA n xs
end
theorem gdA_iff {n : Nat} : ∀ {xs : List D}, gdA n xs = true ↔ ∀ x ∈ xs, gd n x = true
  | [] => by simp [gdA]
  | x :: xs => by rw [gdA, Bool.and_eq_true, gdA_iff (xs := xs)]; simp
theorem txtOk_up {n m : Nat} {x : Str} (h : txtOk n x = true) (hm : n ≤ m) : txtOk m x = true := by
  unfold txtOk at h ⊢
  rw [Bool.and_eq_true, decide_eq_true_eq] at h ⊢
  exact ⟨Nat.le_trans h.1 hm, h.2⟩
mutual
theorem gd_up {n m : Nat} (hm : n ≤ m) : ∀ d : D, gd n d = true → gd m d = true
  | .none, _ => by simp [gd]
  | .bool _, _ => by simp [gd]
  | .int _, _ => by simp [gd]
  | .str x, h => by rw [gd] at h ⊢; exact txtOk_up h hm
  | .list xs, h => by
    rw [gd, Bool.and_eq_true, decide_eq_true_eq] at h ⊢
    exact ⟨Nat.le_trans h.1 hm, gdA_up hm xs h.2⟩
  | .tuple xs, h => by
    rw [gd, Bool.and_eq_true, decide_eq_true_eq] at h ⊢
    exact ⟨Nat.le_trans h.1 hm, gdA_up hm xs h.2⟩
  | .dict _, h => by simp [gd] at h
theorem gdA_up {n m : Nat} (hm : n ≤ m) : ∀ xs : List D, gdA n xs = true → gdA m xs = true
  | [], _ => by simp [gdA]
  | x :: xs, h => by
    rw [gdA, Bool.and_eq_true] at h ⊢
    exact ⟨gd_up hm x h.1, gdA_up hm xs h.2⟩
end
mutual
theorem gd_lay {n : Nat} : ∀ d : D, gd n d = true → d.canLay0 = true
  | .none, _ => by simp [PyData.canLay0]
  | .bool _, _ => by simp [PyData.canLay0]
  | .int _, _ => by simp [PyData.canLay0]
  | .str x, h => by
    rw [gd] at h
    unfold txtOk at h
    rw [Bool.and_eq_true] at h
    rw [PyData.canLay0]
    have h2 := h.2
    show x.cps.all (· < 0x110000) = true
    rw [← Array.all_toList]
    rw [List.all_eq_true] at h2 ⊢
    intro c hc
    have := h2 c hc
    simp at this ⊢
    omega
  | .list xs, h => by
    rw [gd, Bool.and_eq_true] at h
    rw [PyData.canLay0]; exact gdA_lay xs h.2
  | .tuple xs, h => by
    rw [gd, Bool.and_eq_true] at h
    rw [PyData.canLay0]; exact gdA_lay xs h.2
  | .dict _, h => by simp [gd] at h
theorem gdA_lay {n : Nat} : ∀ xs : List D, gdA n xs = true → PyData.canLayAll0 xs = true
  | [], _ => by simp [PyData.canLayAll0]
  | x :: xs, h => by
    rw [gdA, Bool.and_eq_true] at h
    rw [PyData.canLayAll0, gd_lay x h.1, gdA_lay xs h.2]; rfl
end
/-- short, and not deep -/
def Gd (n k : Nat) (d : D) : Prop := gd n d = true ∧ d.depth ≤ k
theorem Gd.up {n m k l : Nat} {d : D} (h : Gd n k d) (h1 : n ≤ m) (h2 : k ≤ l) : Gd m l d := ⟨gd_up h1 d h.1, Nat.le_trans h.2 h2⟩
theorem Gd.shaped {n k : Nat} {d : D} (h : Gd n k d) (hk : k ≤ 64) : SeqAt.shaped d = true := by
  unfold SeqAt.shaped
  rw [gd_lay d h.1, decide_eq_true (Nat.le_trans h.2 hk)]; rfl
theorem gd_int {n k : Nat} {i : Int} : Gd n k (.int i) := ⟨by simp [gd], by simp [PyData.depth]⟩
theorem gd_bool {n k : Nat} {i : Bool} : Gd n k (.bool i) := ⟨by simp [gd], by simp [PyData.depth]⟩
theorem gd_none {n k : Nat} : Gd n k .none := ⟨by simp [gd], by simp [PyData.depth]⟩
theorem gd_str {n k : Nat} {x : Str} (h : txtOk n x = true) : Gd n k (.str x) := ⟨by rw [gd]; exact h, by simp [PyData.depth]⟩
theorem depthA_of : ∀ {ds : List D} {n : Nat}, (∀ d ∈ ds, d.depth ≤ n) → PyData.depthAll ds ≤ n
  | [], n, _ => by rw [PyData.depthAll]; exact Nat.zero_le _
  | x :: xs, n, h => by
    rw [PyData.depthAll]
    exact Nat.max_le.mpr ⟨h x List.mem_cons_self, depthA_of fun d hd => h d (List.mem_cons_of_mem _ hd)⟩
theorem depthA_mem : ∀ {ds : List D} {n : Nat}, PyData.depthAll ds ≤ n → ∀ d ∈ ds, d.depth ≤ n
  | [], _, _, d, hd => by cases hd
  | x :: xs, n, h, d, hd => by
    rw [PyData.depthAll] at h
    obtain ⟨h1, h2⟩ := Nat.max_le.mp h
    rcases List.mem_cons.mp hd with e | e
    · rw [e]; exact h1
    · exact depthA_mem h2 d e
theorem gd_list {n k : Nat} {ds : List D} (hl : ds.length ≤ n) (h : ∀ d ∈ ds, Gd n k d) : Gd n (k + 1) (.list ds) :=
  ⟨by rw [gd, Bool.and_eq_true, decide_eq_true_eq]; exact ⟨hl, gdA_iff.mpr fun d hd => (h d hd).1⟩, by rw [PyData.depth]; exact Nat.succ_le_succ (depthA_of fun d hd => (h d hd).2)⟩
theorem gd_tuple {n k : Nat} {ds : List D} (hl : ds.length ≤ n) (h : ∀ d ∈ ds, Gd n k d) : Gd n (k + 1) (.tuple ds) :=
  ⟨by rw [gd, Bool.and_eq_true, decide_eq_true_eq]; exact ⟨hl, gdA_iff.mpr fun d hd => (h d hd).1⟩, by rw [PyData.depth]; exact Nat.succ_le_succ (depthA_of fun d hd => (h d hd).2)⟩
theorem Gd.ofList {n k : Nat} {ds : List D} (h : Gd n k (.list ds)) : ds.length ≤ n ∧ ∃ j, k = j + 1 ∧ ∀ d ∈ ds, Gd n j d := by
  obtain ⟨h1, h2⟩ := h
  rw [gd, Bool.and_eq_true, decide_eq_true_eq] at h1
  rw [PyData.depth] at h2
  cases k with
  | zero => omega
  | succ j => exact ⟨h1.1, j, rfl, fun d hd => ⟨gdA_iff.mp h1.2 d hd, depthA_mem (by omega) d hd⟩⟩
theorem Gd.ofTuple {n k : Nat} {ds : List D} (h : Gd n k (.tuple ds)) : ds.length ≤ n ∧ ∃ j, k = j + 1 ∧ ∀ d ∈ ds, Gd n j d := by
  obtain ⟨h1, h2⟩ := h
  rw [gd, Bool.and_eq_true, decide_eq_true_eq] at h1
  rw [PyData.depth] at h2
  cases k with
  | zero => omega
  | succ j => exact ⟨h1.1, j, rfl, fun d hd => ⟨gdA_iff.mp h1.2 d hd, depthA_mem (by omega) d hd⟩⟩
theorem Gd.len {n k : Nat} {d : D} {ds : List D} (h : Gd n k d) (e : d = .list ds ∨ d = .tuple ds) : ds.length ≤ n := by
  rcases e with e | e
  · subst e; exact h.ofList.1
  · subst e; exact h.ofTuple.1
/-! texts -/
theorem txt_app {n : Nat} {x : Str} (h : txtOk n x = true) : txtOk (n + 1) (x ++ ("a" : Str)) = true := by
  unfold txtOk at h ⊢
  rw [Bool.and_eq_true, decide_eq_true_eq] at h ⊢
  have e : (x ++ ("a" : Str)).cps = x.cps ++ ("a" : Str).cps := rfl
  have e1 : ("a" : Str).cps = #[97] := by decide +kernel
  constructor
  · show (x ++ ("a" : Str)).cps.size ≤ n + 1
    rw [e, e1, Array.size_append]
    exact Nat.succ_le_succ h.1
  · rw [e, e1, Array.toList_append, List.all_append, h.2]; rfl
theorem txt_cut {n : Nat} {x : Str} {lo hi : Option Int} (h : txtOk n x = true) : txtOk n (cutS x lo hi) = true := by
  unfold txtOk at h ⊢
  rw [Bool.and_eq_true, decide_eq_true_eq] at h ⊢
  have h1 : x.cps.size ≤ n := h.1
  constructor
  · show (cutS x lo hi).cps.size ≤ n
    unfold cutS
    simp
    omega
  · unfold cutS
    rw [List.all_eq_true] at h ⊢
    intro c hc
    refine h.2 c ?_
    exact List.drop_subset _ _ (List.take_subset _ _ hc)
theorem txt_upper {n : Nat} {x : Str} (h : txtOk n x = true) : txtOk n (Txt.upper x) = true := by
  unfold txtOk at h ⊢
  rw [Bool.and_eq_true, decide_eq_true_eq] at h ⊢
  have e : Txt.upper x = SX.S (x.cps.toList.map PyProof.Rows.up1) := SX.upper_S h.2
  rw [e]
  constructor
  · show (x.cps.toList.map PyProof.Rows.up1).toArray.size ≤ n
    simp
    exact h.1
  · show (x.cps.toList.map PyProof.Rows.up1).all (· < 128) = true
    rw [List.all_map, List.all_eq_true]
    intro c hc
    have := List.all_eq_true.mp h.2 c hc
    simp only [Function.comp, decide_eq_true_eq] at this ⊢
    unfold PyProof.Rows.up1
    split <;> omega
end DM
/-! DP: len(set(xs)), xs a list of tuples of ints; while True. -/
namespace DL
open PySem PySem.Spec PyProof.Rows L2
def tLenSetT (K : PySem.W.Frag) (ta : TE) : TE := fun σ H Q => ta σ H fun x H1 => ∃ (l : Addr) (ks : List (Addr × List Int)) (n : Nat), x = V.ref l ∧ SqL K H1 l (ks.map fun p => V.ref p.1) ∧ (∀ p ∈ ks, SqT K H1 p.1 (p.2.map V.int)) ∧ ks.length < 64 ∧
  (∀ ns : List (List Int), ns.Nodup → (∀ k, k ∈ ns ↔ k ∈ ks.map (·.2)) → ns.length = n) ∧ Q (.int (n : Int)) H1
theorem pe_lenSetT {X : Cx} {K : PySem.W.Frag} {a : Expr} {ta : TE} {p p2 q pos : Pos} (hK : X.K = K) (hu : X.A.units + 64 < cLine) (hc : X.calm = true) (hg : Gl X "len") (hm : X.mg "len" = none) (hg2 : Gl X "set") (hm2 : X.mg "set" = none) (ha : PE X a ta)
    (na : starEach [a] X.env = (false, eval a X.env) :: starEach [] X.env := by rfl) : PE X (.Call (.Name "len" p) [.Call (.Name "set" p2) [a] [] q] [] pos) (tLenSetT K ta) := by
  subst hK
  refine ⟨fun pins s σ H Q I h => ?_⟩
  refine Call_ (ld_blt I hg hm PySem.boot_len ?_)
  refine callWith_builtin1 (args_cons ?_ rfl) rfl rfl
  refine Call_ (ld_blt I hg2 hm2 boot_set ?_)
  refine callWith_type1 (args_cons (thn (ha.run pins s σ H _ I h) fun v s1 ⟨x, H1, I1, r1, q1⟩ => args_nil ?_) na) na rfl
  obtain ⟨l, ks, n, rfl, hq, hk, h64, hn, q1⟩ := q1
  cases r1
  obtain ⟨its, rv, pl, hz⟩ := I1.list hq
  refine call_set_tups (P := X.prog) (w := X.w) ks (I1.ok.hd hc) pl.isList (by simpa using refs_of_vals rv) (fun p hp => I1.isT (hk p hp)) h64 (by show X.A.units + 3 < cLine; omega) fun h' tk L es ep t R g k => ?_
  refine args_nil ?_
  obtain ⟨o, ho, hex, hd⟩ := R.ob
  have I2 : Inv X pins σ H1 { s1 with heap := h', toks := tk } := I1.kept fun b o e => k b o e
  have hL : (L.map (·.2)).length = n := hn _ R.nd fun key => by
    constructor
    · intro hm
      obtain ⟨p, hp, rfl⟩ := List.mem_map.mp hm
      exact List.mem_map_of_mem (List.mem_of_mem_take (g.sub p hp))
    · intro hm
      obtain ⟨p, hp, rfl⟩ := List.mem_map.mp hm
      exact g.all p (by rw [List.take_length]; exact hp)
  rw [List.length_map] at hL
  have hsz : es.size = n := by rw [SetTR.size (s := { s1 with heap := h', toks := tk }) R, hL]
  refine call_len_set ho hex hd (SetTR.fits (s := { s1 with heap := h', toks := tk }) R) (by rw [hsz, ← hL]; have := R.few; omega) ⟨.int (n : Int), H1, I2.tok _, ⟨_, by rw [hsz]⟩, q1⟩
/-- the rows of a list of tuples of ints -/
def rowsI : List D → Option (List (List Int))
  | [] => some []
  | .tuple xs :: ds => (intsD xs).bind fun r => (rowsI ds).map (r :: ·)
  | _ :: _ => none
def dist : List (List Int) → List (List Int)
  | [] => []
  | x :: xs => if (dist xs).contains x = true then dist xs else x :: dist xs
theorem mem_dist {k : List Int} : ∀ {xs : List (List Int)}, k ∈ dist xs ↔ k ∈ xs
  | [] => by simp [dist]
  | x :: xs => by
    unfold dist
    by_cases h : (dist xs).contains x = true
    · rw [if_pos h, mem_dist (xs := xs), List.mem_cons]
      have hx : x ∈ xs := mem_dist.mp (by simpa using h)
      constructor
      · exact .inr
      · rintro (rfl | w)
        · exact hx
        · exact w
    · rw [if_neg h, List.mem_cons, List.mem_cons, mem_dist (xs := xs)]
theorem nodup_dist : ∀ xs : List (List Int), (dist xs).Nodup
  | [] => by simp [dist]
  | x :: xs => by
    unfold dist
    by_cases h : (dist xs).contains x = true
    · rw [if_pos h]; exact nodup_dist xs
    · rw [if_neg h, List.nodup_cons]
      exact ⟨by simpa using h, nodup_dist xs⟩
def sLenSetT (a : SE) : SE := fun ρ c => (a ρ c).bind fun p => match p.1 with
  | .list ds => (rowsI ds).bind fun rs => if rs.length < 64 then some (.int ((dist rs).length : Int), p.2) else none
  | _ => none
theorem rowsI_ok {K : PySem.W.Frag} {B H : Hp} (f : Same B H) : ∀ {ds : List D} {vs : List V} {rs : List (List Int)}, DpAll K B vs ds → rowsI ds = some rs → ∃ ks : List (Addr × List Int), vs = (ks.map fun p => V.ref p.1) ∧ (∀ p ∈ ks, SqT K H p.1 (p.2.map V.int)) ∧ ks.map (·.2) = rs
  | [], _, _, h, e => by cases h; cases e; exact ⟨[], rfl, (fun p hp => by cases hp), rfl⟩
  | d :: ds, _, rs, h, e => by
    cases h with
    | cons h1 h2 =>
      cases d with
      | tuple xs =>
        obtain ⟨r, e1, e2⟩ := Option.bind_eq_some_iff.mp (show ((intsD xs).bind fun r => (rowsI ds).map (r :: ·)) = some rs from e)
        obtain ⟨rs', e3, rfl⟩ := Option.map_eq_some_iff.mp e2
        obtain ⟨a, ys, rfl, g1, g2⟩ := dp_tuple h1
        obtain ⟨ks, rfl, hk, rfl⟩ := rowsI_ok f h2 e3
        have hy := ints_ok g2 e1
        refine ⟨(a, r) :: ks, rfl, fun p hp => ?_, rfl⟩
        rcases List.mem_cons.mp hp with w | w
        · rw [w, ← hy]; exact SqT.of (f _ _ g1)
        · exact hk p w
      | _ => cases e
theorem imp_lenSetT {K : PySem.W.Frag} {te : TE} {a : SE} (ha : ImpE K te a) : ImpE K (tLenSetT K te) (sLenSetT a) := fun ad B σ H ρ c d c' Q R h q => by
  obtain ⟨⟨x, c1⟩, h1, h⟩ := Option.bind_eq_some_iff.mp h
  cases x with
  | list xs =>
    obtain ⟨rs, e1, e2⟩ := Option.bind_eq_some_iff.mp (show ((rowsI xs).bind fun rs => if rs.length < 64 then some (PyData.int ((dist rs).length : Int), c1) else none) = some (d, c') from h)
    split at e2
    · rename_i hl
      cases e2
      refine ha ad B σ H ρ c _ _ _ R h1 fun v B1 H1 f1 d1 => ?_
      obtain ⟨l, vs, rfl, g1, g2⟩ := dp_list d1
      obtain ⟨ks, rfl, hk, hr⟩ := rowsI_ok f1.bh g2 e1
      refine ⟨l, ks, (dist rs).length, rfl, SqL.of (f1.bh _ _ g1), hk, by rw [← hr, List.length_map] at hl; exact hl, fun ns hn hm => ?_, q _ B1 H1 f1 (.int _)⟩
      have p : ns.Perm (dist rs) := (List.perm_ext_iff_of_nodup hn (nodup_dist rs)).mpr fun k => by rw [hm k, mem_dist, hr]
      exact p.length_eq
    · cases e2
  | _ => cases h
/-! ### a list and another one, as a new list of one's own -/
def sAddL (a b : SE) : SL := fun ρ c => (a ρ c).bind fun p => (b ρ p.2).bind fun q => match p.1, q.1 with
  | .list xs, .list ys => if few (xs.length + ys.length) = true then some (xs ++ ys, q.2) else none
  | _, _ => none
theorem imp_addL {K : PySem.W.Frag} {t u : TE} {a b : SE} (ha : ImpE K t a) (hb : ImpE K u b) : ImpL K (tOp (rAddA K) t u) (sAddL a b) := fun ad B σ H ρ c ds c' Q R e q => by
  obtain ⟨⟨x, c1⟩, e1, e2⟩ := Option.bind_eq_some_iff.mp e
  obtain ⟨⟨y, c2⟩, e3, e4⟩ := Option.bind_eq_some_iff.mp e2
  cases x with
  | list xs =>
    cases y with
    | list ys =>
      have e4' : (if few (xs.length + ys.length) = true then some (xs ++ ys, c2) else none) = some (ds, c') := e4
      split at e4'
      · rename_i hz
        cases e4'
        refine ha ad B σ H ρ c _ _ _ R e1 fun v B1 H1 f1 dv => ?_
        refine hb ad B1 σ H1 ρ c1 _ _ _ (R.fw f1) e3 fun w B2 H2 f2 dw => ?_
        obtain ⟨a1, vs, rfl, h1, h2⟩ := dp_list dv
        obtain ⟨b1, ws, rfl, g1, g2⟩ := dp_list dw
        have h2' := dpAll_mono f2.bb _ _ h2
        exact .inr (.inl ⟨a1, b1, vs, ws, rfl, rfl, f2.bh _ _ (f2.bb _ _ h1), f2.bh _ _ g1, by rw [dpAll_len h2, dpAll_len g2]; exact few_line hz, fun p np => q p _ B2 _ H2 (R.trans f1 f2) np rfl (dpAll_append h2' g2)⟩)
      · cases e4'
    | _ => cases e4
  | _ => cases e4
end DL
namespace X
open PySem PySem.Spec L2 DL
def topS (i : Nat) : Stmt := PySem.Challenge.pw_framecount_k13_bars_and_looks_judged.main.body.getD i (.Pass ⟨0, 0, 0, 0⟩)
abbrev s_is_between : Stmt := topS 1
abbrev N_is_between : List Str := ["thing", "low", "high"]
theorem sc_is_between : FnScope N_is_between ["thing", "low", "high"] (defScope s_is_between) := ⟨rfl, rfl, rfl, by decide +kernel, rfl, by decide +kernel, by decide +kernel⟩
abbrev s_rises : Stmt := topS 2
abbrev N_rises : List Str := ["places", "frame", "counts", "found", "place", "stand"]
theorem sc_rises : FnScope N_rises ["places", "frame", "counts"] (defScope s_rises) := ⟨rfl, rfl, rfl, by decide +kernel, rfl, by decide +kernel, by decide +kernel⟩
abbrev s_ranges : Stmt := topS 3
abbrev N_ranges : List Str := ["places", "cap", "frame", "counts", "some", "found", "thread", "ups", "least", "most"]
theorem sc_ranges : FnScope N_ranges ["places", "cap", "frame", "counts"] (defScope s_ranges) := ⟨rfl, rfl, rfl, by decide +kernel, rfl, by decide +kernel, by decide +kernel⟩
abbrev s_tight : Stmt := topS 5
abbrev N_tight : List Str := ["places", "cap", "frame", "counts", "spans", "low", "high", "whole", "one"]
theorem sc_tight : FnScope N_tight ["places", "cap", "frame", "counts"] (defScope s_tight) := ⟨rfl, rfl, rfl, by decide +kernel, rfl, by decide +kernel, by decide +kernel⟩
abbrev s_thread_bars : Stmt := topS 7
abbrev N_thread_bars : List Str := ["places", "cap", "frame", "counts", "some", "found", "place", "other"]
theorem sc_thread_bars : FnScope N_thread_bars ["places", "cap", "frame", "counts"] (defScope s_thread_bars) := ⟨rfl, rfl, rfl, by decide +kernel, rfl, by decide +kernel, by decide +kernel⟩
abbrev s_bar : Stmt := topS 8
abbrev N_bar : List Str := ["places", "cap", "frame", "counts", "found", "spans", "high", "one"]
theorem sc_bar : FnScope N_bar ["places", "cap", "frame", "counts"] (defScope s_bar) := ⟨rfl, rfl, rfl, by decide +kernel, rfl, by decide +kernel, by decide +kernel⟩
abbrev s_is_bar : Stmt := topS 9
abbrev N_is_bar : List Str := ["places", "cap", "frame", "counts", "thing", "some", "one"]
theorem sc_is_bar : FnScope N_is_bar ["places", "cap", "frame", "counts", "thing"] (defScope s_is_bar) := ⟨rfl, rfl, rfl, by decide +kernel, rfl, by decide +kernel, by decide +kernel⟩
abbrev s_open_threads : Stmt := topS 11
abbrev N_open_threads : List Str := ["places", "cap", "frame", "counts", "spans", "thread", "one"]
theorem sc_open_threads : FnScope N_open_threads ["places", "cap", "frame", "counts"] (defScope s_open_threads) := ⟨rfl, rfl, rfl, by decide +kernel, rfl, by decide +kernel, by decide +kernel⟩
abbrev s_looks : Stmt := topS 12
abbrev N_looks : List Str := ["places", "cap", "frame", "counts", "some"]
theorem sc_looks : FnScope N_looks ["places", "cap", "frame", "counts"] (defScope s_looks) := ⟨rfl, rfl, rfl, by decide +kernel, rfl, by decide +kernel, by decide +kernel⟩
abbrev s_are_looks : Stmt := topS 13
abbrev N_are_looks : List Str := ["places", "cap", "frame", "counts", "thing", "some", "one", "other", "thread"]
theorem sc_are_looks : FnScope N_are_looks ["places", "cap", "frame", "counts", "thing"] (defScope s_are_looks) := ⟨rfl, rfl, rfl, by decide +kernel, rfl, by decide +kernel, by decide +kernel⟩
abbrev s_l_grown : Stmt := topS 15
abbrev N_l_grown : List Str := ["places", "frame", "counts", "firsts", "found", "place", "stand"]
theorem sc_l_grown : FnScope N_l_grown ["places", "frame", "counts", "firsts"] (defScope s_l_grown) := ⟨rfl, rfl, rfl, by decide +kernel, rfl, by decide +kernel, by decide +kernel⟩
abbrev s_l_is_whole : Stmt := topS 16
abbrev N_l_is_whole : List Str := ["thing", "low", "high"]
theorem sc_l_is_whole : FnScope N_l_is_whole ["thing", "low", "high"] (defScope s_l_is_whole) := ⟨rfl, rfl, rfl, by decide +kernel, rfl, by decide +kernel, by decide +kernel⟩
abbrev s_l_draws : Stmt := topS 17
abbrev N_l_draws : List Str := ["script", "k", "cell"]
theorem sc_l_draws : FnScope N_l_draws ["script", "k"] (defScope s_l_draws) := ⟨rfl, rfl, rfl, by decide +kernel, rfl, by decide +kernel, by decide +kernel⟩
abbrev s_l_draw : Stmt := topS 18
abbrev N_l_draw : List Str := ["draws", "many", "found", "wide"]
theorem sc_l_draw : FnScope N_l_draw ["draws", "many"] (defScope s_l_draw) := ⟨rfl, rfl, rfl, by decide +kernel, rfl, by decide +kernel, by decide +kernel⟩
abbrev s_l_of : Stmt := topS 19
abbrev N_l_of : List Str := ["draws", "some"]
theorem sc_l_of : FnScope N_l_of ["draws", "some"] (defScope s_l_of) := ⟨rfl, rfl, rfl, by decide +kernel, rfl, by decide +kernel, by decide +kernel⟩
abbrev s_l_small : Stmt := topS 20
abbrev N_l_small : List Str := ["draws", "cap", "frame"]
theorem sc_l_small : FnScope N_l_small ["draws"] (defScope s_l_small) := ⟨rfl, rfl, rfl, by decide +kernel, rfl, by decide +kernel, by decide +kernel⟩
abbrev s_l_counts : Stmt := topS 21
abbrev N_l_counts : List Str := ["row", "frame", "found", "stand", "whole", "place"]
theorem sc_l_counts : FnScope N_l_counts ["row", "frame"] (defScope s_l_counts) := ⟨rfl, rfl, rfl, by decide +kernel, rfl, by decide +kernel, by decide +kernel⟩
abbrev s_l_row : Stmt := topS 22
abbrev N_l_row : List Str := ["draws", "places", "cap", "far", "row", "place", "one"]
theorem sc_l_row : FnScope N_l_row ["draws", "places", "cap"] (defScope s_l_row) := ⟨rfl, rfl, rfl, by decide +kernel, rfl, by decide +kernel, by decide +kernel⟩
abbrev s_l_told_counts : Stmt := topS 23
abbrev N_l_told_counts : List Str := ["draws", "places", "cap", "frame", "found", "turn", "at"]
theorem sc_l_told_counts : FnScope N_l_told_counts ["draws", "places", "cap", "frame"] (defScope s_l_told_counts) := ⟨rfl, rfl, rfl, by decide +kernel, rfl, by decide +kernel, by decide +kernel⟩
abbrev s_l_rows : Stmt := topS 24
abbrev N_l_rows : List Str := ["places", "cap", "frame", "counts", "found", "lots", "turn", "longer", "lot", "row", "number"]
theorem sc_l_rows : FnScope N_l_rows ["places", "cap", "frame", "counts"] (defScope s_l_rows) := ⟨rfl, rfl, rfl, by decide +kernel, rfl, by decide +kernel, by decide +kernel⟩
abbrev s_l_thing : Stmt := topS 25
abbrev N_l_thing : List Str := ["draws", "deep", "way", "some", "bits", "k"]
theorem sc_l_thing : FnScope N_l_thing ["draws", "deep"] (defScope s_l_thing) := ⟨rfl, rfl, rfl, by decide +kernel, rfl, by decide +kernel, by decide +kernel⟩
abbrev s_l_otherwise : Stmt := topS 26
abbrev N_l_otherwise : List Str := ["draws", "thing", "deep", "bits", "spot", "way", "word", "number"]
theorem sc_l_otherwise : FnScope N_l_otherwise ["draws", "thing", "deep"] (defScope s_l_otherwise) := ⟨rfl, rfl, rfl, by decide +kernel, rfl, by decide +kernel, by decide +kernel⟩
abbrev s_l_truly : Stmt := topS 27
abbrev N_l_truly : List Str := ["found", "due"]
theorem sc_l_truly : FnScope N_l_truly ["found", "due"] (defScope s_l_truly) := ⟨rfl, rfl, rfl, by decide +kernel, rfl, by decide +kernel, by decide +kernel⟩
abbrev s_l_bars : Stmt := topS 28
abbrev N_l_bars : List Str := ["places", "cap", "frame", "counts", "rows", "grown", "found", "place", "other", "low", "high", "thread", "some"]
theorem sc_l_bars : FnScope N_l_bars ["places", "cap", "frame", "counts", "rows"] (defScope s_l_bars) := ⟨rfl, rfl, rfl, by decide +kernel, rfl, by decide +kernel, by decide +kernel⟩
abbrev s_l_are_looks : Stmt := topS 29
abbrev N_l_are_looks : List Str := ["places", "rows", "thing", "one", "other", "row", "place"]
theorem sc_l_are_looks : FnScope N_l_are_looks ["places", "rows", "thing"] (defScope s_l_are_looks) := ⟨rfl, rfl, rfl, by decide +kernel, rfl, by decide +kernel, by decide +kernel⟩
abbrev s_l_fewest : Stmt := topS 30
abbrev N_l_fewest : List Str := ["places", "rows", "lots", "lot", "longer", "place"]
theorem sc_l_fewest : FnScope N_l_fewest ["places", "rows"] (defScope s_l_fewest) := ⟨rfl, rfl, rfl, by decide +kernel, rfl, by decide +kernel, by decide +kernel⟩
abbrev s_law : Stmt := topS 31
abbrev N_law : List Str := ["script", "k", "draws", "places", "cap", "frame", "counts", "rows", "bars", "told", "things", "once", "turn", "pair", "near", "thing", "good", "place", "one"]
theorem sc_law : FnScope N_law ["script"] (defScope s_law) := ⟨rfl, rfl, rfl, by decide +kernel, rfl, by decide +kernel, by decide +kernel⟩
def S_is_between : SS := (sRet (sAndV (sIsi .int (sV 0)) (sAndV (sNotV (sIsi .bool (sV 0))) (sChain leD leD (sV 1) (sV 0) (sV 2)))))
def F_is_between : List D → Option D := bodyP 3 0 S_is_between
def S_rises : SS := (sSeq (sAsgL (sRepL (sDispL (sCons (sC (.int 0)) sNil)) (sV 1)) 3)
 (sSeq (sFor (sR2 (sCons (sV 1) (sCons (sV 0) sNil))) (qN 4)
 (sThen [4, 5] (sSeq (sAsg (sOp subD (sV 4) (sV 1)) (qN 5))
 (sApp 3 (sOp subD (sOp addD (sIxO 3 (sV 5)) (sOp ixD (sV 2) (sOp addD (sV 5) (sC (.int 1))))) (sOp ixD (sV 2) (sV 5)))))))
 (sFrz 3 (sRet (sV 3)))))
def F_rises : List D → Option D := bodyP 3 3 S_rises
def S_ranges : SS := (sSeq (sMany [4, 5] (sAvP (sCall F_rises (sCons (sV 0) (sCons (sV 2) (sCons (sV 3) sNil)))) (sAvF (sDispL sNil) sAvNil)))
 (sSeq (sFor (sR1 (sCons (sV 2) sNil)) (qN 6)
 (sThen [6, 7, 8, 9] (sSeq (sAsg (sSl3 (sV 4) (sP (sV 6)) sNoP (sP (sV 2))) (qN 7))
 (sSeq (sMany [8, 9] (sAvP (sOp subD (sC (.int 0)) (sCB minS (sCons (sV 7) sNil))) (sAvP (sOp subD (sV 1) (sCB maxS (sCons (sV 7) sNil))) sAvNil)))
 (sApp 5 (sIfE (sB (sOp leD (sV 8) (sV 9))) (sTup (sCons (sV 8) (sCons (sV 9) sNil))) (sC .none)))))))
 (sFrz 5 (sRet (sV 5)))))
def F_ranges : List D → Option D := bodyP 4 6 S_ranges
def S_tight : SS := (sSeq (sAsg (sCall F_ranges (sCons (sV 0) (sCons (sV 1) (sCons (sV 2) (sCons (sV 3) sNil))))) (qN 4))
 (sSeq (sIfS (sB (sOp inD (sC .none) (sV 4)))
 (sRet (sC .none))
 sNext)
 (sSeq (sMany [5, 6] (sAvP (sCB sumA (sCons (sOfL (sLc (sItL (sV 4)) (qN 8) sYes (sOp ixD (sV 8) (sC (.int 0))) [8])) sNil)) (sAvP (sCB sumA (sCons (sOfL (sLc (sItL (sV 4)) (qN 8) sYes (sOp ixD (sV 8) (sC (.int 1))) [8])) sNil)) sAvNil)))
 (sSeq (sAsg (sOp ixD (sV 3) (sC (.int 0))) (qN 7))
 (sSeq (sIfS (sNot (sB (sChain leD leD (sV 5) (sV 7) (sV 6))))
 (sRet (sC .none))
 sNext)
 (sRet (sOfL (sLc (sItL (sV 4)) (qN 8) sYes (sTup (sCons (sCB maxS (sCons (sOp ixD (sV 8) (sC (.int 0))) (sCons (sOp addD (sOp subD (sV 7) (sV 6)) (sOp ixD (sV 8) (sC (.int 1)))) sNil))) (sCons (sCB minS (sCons (sOp ixD (sV 8) (sC (.int 1))) (sCons (sOp addD (sOp subD (sV 7) (sV 5)) (sOp ixD (sV 8) (sC (.int 0)))) sNil))) sNil))) [8]))))))))
def F_tight : List D → Option D := bodyP 4 5 S_tight
def S_thread_bars : SS := (sSeq (sMany [4, 5] (sAvP (sCall F_rises (sCons (sV 0) (sCons (sV 2) (sCons (sV 3) sNil)))) (sAvF (sDispL sNil) sAvNil)))
 (sSeq (sFor (sR1 (sCons (sV 0) sNil)) (qN 6)
 (sThen [6] (sFor (sR3 (sCons (sOp addD (sV 6) (sV 2)) (sCons (sV 0) (sCons (sV 2) sNil)))) (qN 7)
 (sThen [7] (sIfS (sB (sOp gtD (sCB absD (sCons (sOp subD (sOp ixD (sV 4) (sV 7)) (sOp ixD (sV 4) (sV 6))) sNil)) (sV 1)))
 (sApp 5 (sTup (sCons (sC (.str "thread")) (sCons (sV 6) (sCons (sV 7) sNil)))))
 sNext)))))
 (sFrz 5 (sRet (sV 5)))))
def F_thread_bars : List D → Option D := bodyP 4 4 S_thread_bars
def S_bar : SS := (sSeq (sIfS (sB (sOp notND (sCall F_tight (sCons (sV 0) (sCons (sV 1) (sCons (sV 2) (sCons (sV 3) sNil))))) (sC .none)))
 (sRet (sC .none))
 sNext)
 (sSeq (sAsg (sCall F_thread_bars (sCons (sV 0) (sCons (sV 1) (sCons (sV 2) (sCons (sV 3) sNil))))) (qN 4))
 (sSeq (sIfS (sB (sOp neD (sV 4) (sLst sNil)))
 (sRet (sOp ixD (sV 4) (sC (.int 0))))
 sNext)
 (sSeq (sAsg (sCall F_ranges (sCons (sV 0) (sCons (sV 1) (sCons (sV 2) (sCons (sV 3) sNil))))) (qN 5))
 (sSeq (sAsg (sCB sumA (sCons (sOfL (sLc (sItL (sV 5)) (qN 7) sYes (sOp ixD (sV 7) (sC (.int 1))) [7])) sNil)) (qN 6))
 (sRet (sIfE (sB (sOp gtD (sOp ixD (sV 3) (sC (.int 0))) (sV 6))) (sTup (sCons (sC (.str "many")) (sCons (sV 6) sNil))) (sTup (sCons (sC (.str "few")) (sCons (sCB sumA (sCons (sOfL (sLc (sItL (sV 5)) (qN 7) sYes (sOp ixD (sV 7) (sC (.int 0))) [7])) sNil)) sNil))))))))))
def F_bar : List D → Option D := bodyP 4 4 S_bar
def S_is_bar : SS := (sSeq (sIfS (sOr (sNot (sB (sIsi .tuple (sV 4)))) (sOr (sB (sOp notInD (sCB lenD (sCons (sV 4) sNil)) (sTup (sCons (sC (.int 2)) (sCons (sC (.int 3)) sNil))))) (sNot (sB (sIsi .str (sOp ixD (sV 4) (sC (.int 0))))))))
 (sRet (sC (.bool false)))
 sNext)
 (sSeq (sIfS (sNot (sB (sCB allD (sCons (sOfL (sLc (sItT (sSl slD (sV 4) (sP (sC (.int 1))) sNoP)) (qN 6) sYes (sCall F_is_between (sCons (sV 6) (sCons (sUn negD (sOp powD (sC (.int 10)) (sC (.int 4)))) (sCons (sOp powD (sC (.int 10)) (sC (.int 4))) sNil)))) [6])) sNil))))
 (sRet (sC (.bool false)))
 sNext)
 (sSeq (sAsg (sCall F_thread_bars (sCons (sV 0) (sCons (sV 1) (sCons (sV 2) (sCons (sV 3) sNil))))) (qN 5))
 (sSeq (sIfS (sB (sOp neD (sV 5) (sLst sNil)))
 (sRet (sOp inD (sV 4) (sV 5)))
 sNext)
 (sRet (sOp eqD (sV 4) (sCall F_bar (sCons (sV 0) (sCons (sV 1) (sCons (sV 2) (sCons (sV 3) sNil)))))))))))
def F_is_bar : List D → Option D := bodyP 5 2 S_is_bar
def S_open_threads : SS := (sSeq (sAsg (sCall F_tight (sCons (sV 0) (sCons (sV 1) (sCons (sV 2) (sCons (sV 3) sNil))))) (qN 4))
 (sRet (sIfE (sB (sOp isND (sV 4) (sC .none))) (sC .none) (sOfL (sLc (sEnum (sV 4)) (qTup (qCons (qN 5) (qCons (qN 6) qNil))) (sB (sOp ltD (sOp ixD (sV 6) (sC (.int 0))) (sOp ixD (sV 6) (sC (.int 1))))) (sV 5) [5, 6])))))
def F_open_threads : List D → Option D := bodyP 4 3 S_open_threads
def S_looks : SS := (sSeq (sAsg (sCall F_open_threads (sCons (sV 0) (sCons (sV 1) (sCons (sV 2) (sCons (sV 3) sNil))))) (qN 4))
 (sRet (sIfE (sB (sOp isND (sV 4) (sC .none))) (sC .none) (sCB tupleD (sCons (sSl slD (sV 4) sNoP (sP (sUn negD (sC (.int 1))))) sNil)))))
def F_looks : List D → Option D := bodyP 4 1 S_looks
def S_are_looks : SS := (sSeq (sIfS (sOr (sNot (sB (sIsi .tuple (sV 4)))) (sNot (sB (sCB allD (sCons (sOfL (sLc (sItT (sV 4)) (qN 6) sYes (sCall F_is_between (sCons (sV 6) (sCons (sC (.int 0)) (sCons (sOp subD (sV 0) (sC (.int 1))) sNil)))) [6])) sNil)))))
 (sRet (sC (.bool false)))
 sNext)
 (sSeq (sIfS (sNot (sB (sCB allD (sCons (sOfL (sLc (sZip (sV 4) (sSl slD (sV 4) (sP (sC (.int 1))) sNoP)) (qTup (qCons (qN 6) (qCons (qN 7) qNil))) sYes (sOp ltD (sV 6) (sV 7)) [6, 7])) sNil))))
 (sRet (sC (.bool false)))
 sNext)
 (sSeq (sAsg (sCall F_open_threads (sCons (sV 0) (sCons (sV 1) (sCons (sV 2) (sCons (sV 3) sNil))))) (qN 5))
 (sSeq (sIfS (sB (sOp isND (sV 5) (sC .none)))
 (sRet (sC (.bool true)))
 sNext)
 (sRet (sOp ltD (sCB lenD (sCons (sOfL (sLc (sItL (sV 5)) (qN 8) (sNot (sB (sCB anyD (sCons (sOfL (sLc (sItT (sV 4)) (qN 6) sYes (sOp eqD (sOp modD (sV 6) (sV 2)) (sV 8)) [6])) sNil)))) (sV 8) [8])) sNil)) (sC (.int 2))))))))
def F_are_looks : List D → Option D := bodyP 5 4 S_are_looks
def S_l_grown : SS := (sSeq (sAsgL (sListOf (sCons (sV 3) sNil)) 4)
 (sSeq (sFor (sR2 (sCons (sV 1) (sCons (sV 0) sNil))) (qN 5)
 (sThen [5, 6] (sSeq (sAsg (sOp subD (sV 5) (sV 1)) (qN 6))
 (sApp 4 (sOp subD (sOp addD (sIxO 4 (sV 6)) (sOp ixD (sV 2) (sOp addD (sV 6) (sC (.int 1))))) (sOp ixD (sV 2) (sV 6)))))))
 (sFrz 4 (sRet (sCB tupleD (sCons (sV 4) sNil))))))
def F_l_grown : List D → Option D := bodyP 4 3 S_l_grown
def S_l_is_whole : SS := (sRet (sAndV (sIsi .int (sV 0)) (sAndV (sNotV (sIsi .bool (sV 0))) (sChain leD leD (sV 1) (sV 0) (sV 2)))))
def F_l_is_whole : List D → Option D := bodyP 3 0 S_l_is_whole
def S_l_draw : SS := (sSeq (sIfS (sB (sOp gtD (sDrIx 0 (sC (.int 0))) (sC (.int 0))))
 (sSeq (sAsg (sOp modD (sDrIx 0 (sC (.int 0))) (sV 1)) (qN 2))
 (sSeq (sDrSet 0 (sC (.int 0)) (sOp fdivD (sDrIx 0 (sC (.int 0))) (sV 1)))
 (sRet (sV 2))))
 sNext)
 (sSeq (sAsg (sC (.int 0)) (qN 2))
 (sSeq (sAsg (sC (.int 1)) (qN 3))
 (sSeq (whileS (sB (sOp ltD (sV 3) (sV 1))) (sSeq (sDrSet 0 (sC (.int 1)) (sOp modD (sOp mulD (sDrIx 0 (sC (.int 1))) (sC (.int 69621))) (sC (.int 2147483647))))
 (sSeq (sAsg (sOp addD (sOp mulD (sV 2) (sC (.int 268435456))) (sOp fdivD (sOp modD (sOp mulD (sDrIx 0 (sC (.int 1))) (sOp addD (sOp fdivD (sDrIx 0 (sC (.int 1))) (sC (.int 128))) (sC (.int 3)))) (sC (.int 2147483629))) (sC (.int 8)))) (qN 2))
 (sAsg (sOp mulD (sV 3) (sC (.int 268435456))) (qN 3)))) 3)
 (sRet (sOp modD (sV 2) (sV 1)))))))
def F_l_draw : List D → Dr → Option (D × Dr) := bodyD 1 2 S_l_draw
def S_l_of : SS := (sRet (sOp ixD (sV 1) (sCallD F_l_draw 0 (sCons (sCB lenD (sCons (sV 1) sNil)) sNil))))
def F_l_of : List D → Dr → Option (D × Dr) := bodyD 1 0 S_l_of
def S_l_small : SS := (sSeq (sAsg (sCallD F_l_of 0 (sCons (sLst (sCons (sTup (sCons (sC (.int 1)) (sCons (sC (.int 9)) sNil))) (sCons (sTup (sCons (sC (.int 2)) (sCons (sC (.int 5)) sNil))) (sCons (sTup (sCons (sC (.int 3)) (sCons (sC (.int 4)) sNil))) (sCons (sTup (sCons (sC (.int 9)) (sCons (sC (.int 2)) sNil))) (sCons (sTup (sCons (sC (.int 5)) (sCons (sC (.int 3)) sNil))) (sCons (sTup (sCons (sC (.int 1)) (sCons (sC (.int 5)) sNil))) (sCons (sTup (sCons (sC (.int 2)) (sCons (sC (.int 3)) sNil))) (sCons (sTup (sCons (sC (.int 4)) (sCons (sC (.int 1)) sNil))) sNil))))))))) sNil)) (qTup (qCons (qN 1) (qCons (qN 2) qNil))))
 (sSeq (sAsg (sOp addD (sC (.int 1)) (sCallD F_l_draw 0 (sCons (sV 2) sNil))) (qN 2))
 (sRet (sTup (sCons (sOp addD (sV 2) (sCallD F_l_draw 0 (sCons (sOp subD (sC (.int 25)) (sV 2)) sNil))) (sCons (sV 1) (sCons (sV 2) sNil)))))))
def F_l_small : List D → Dr → Option (D × Dr) := bodyD 0 2 S_l_small
def S_l_counts : SS := (sSeq (sAsgL (sDispL sNil) 2)
 (sSeq (sFor (sR1 (sCons (sOp addD (sOp subD (sCB lenD (sCons (sV 0) sNil)) (sV 1)) (sC (.int 1))) sNil)) (qN 3)
 (sThen [3, 4] (sSeq (sAsg (sC (.int 0)) (qN 4))
 (sSeq (sFor (sR2 (sCons (sV 3) (sCons (sOp addD (sV 3) (sV 1)) sNil))) (qN 5)
 (sThen [5] (sAsg (sOp addD (sV 4) (sOp ixD (sV 0) (sV 5))) (qN 4))))
 (sApp 2 (sV 4))))))
 (sFrz 2 (sRet (sCB tupleD (sCons (sV 2) sNil))))))
def F_l_counts : List D → Option D := bodyP 2 4 S_l_counts
def S_l_row : SS := (sSeq (sAsg (sCallD F_l_of 0 (sCons (sLst (sCons (sC (.int 1)) (sCons (sV 2) (sCons (sV 2) sNil)))) sNil)) (qN 3))
 (sSeq (sAsg (sOfL (sLc (sR1 (sCons (sV 1) sNil)) (qN 5) sYes (sCallD F_l_draw 0 (sCons (sOp addD (sV 3) (sC (.int 1))) sNil)) [5])) (qN 4))
 (sSeq (sIfS (sB (sOp eqD (sCallD F_l_draw 0 (sCons (sC (.int 4)) sNil)) (sC (.int 0))))
 (sAsg (sOfL (sLc (sItL (sV 4)) (qN 6) sYes (sOp subD (sV 2) (sV 6)) [6])) (qN 4))
 sNext)
 (sRet (sCB tupleD (sCons (sV 4) sNil))))))
def F_l_row : List D → Dr → Option (D × Dr) := bodyD 2 4 S_l_row
def S_l_told_counts : SS := (sSeq (sAsgL (sListOf (sCons (sCall F_l_counts (sCons (sCallD F_l_row 0 (sCons (sV 1) (sCons (sV 2) sNil))) (sCons (sV 3) sNil))) sNil)) 4)
 (sSeq (sFor (sR1 (sCons (sOp ixD (sLst (sCons (sC (.int 0)) (sCons (sC (.int 0)) (sCons (sC (.int 1)) (sCons (sC (.int 2)) (sCons (sC (.int 9)) sNil)))))) (sCallD F_l_draw 0 (sCons (sC (.int 5)) sNil))) sNil)) (qN 5)
 (sThen [5, 6] (sSeq (sAsg (sCallD F_l_draw 0 (sCons (sFl 4 (sCB lenD (sCons (sV 4) sNil))) sNil)) (qN 6))
 (sSetI 4 (sV 6) (sCallD F_l_of 0 (sCons (sLst (sCons (sCallD F_l_draw 0 (sCons (sOp addD (sOp mulD (sV 3) (sV 2)) (sC (.int 1))) sNil)) (sCons (sCB minS (sCons (sOp mulD (sV 3) (sV 2)) (sCons (sOp addD (sIxO 4 (sV 6)) (sC (.int 1))) sNil))) (sCons (sCB maxS (sCons (sC (.int 0)) (sCons (sOp subD (sIxO 4 (sV 6)) (sC (.int 1))) sNil))) sNil)))) sNil))))))
 (sFrz 4 (sRet (sCB tupleD (sCons (sV 4) sNil))))))
def F_l_told_counts : List D → Dr → Option (D × Dr) := bodyD 3 3 S_l_told_counts
def S_l_rows : SS := (sSeq (sMany [4, 5] (sAvF (sDispL sNil) (sAvP (sLst (sCons (sTup sNil) sNil)) sAvNil)))
 (sSeq (sFor (sR1 (sCons (sV 2) sNil)) (qN 6)
 (sThen [6, 7] (sSeq (sAsg (sLst sNil) (qN 7))
 (sSeq (sFor (sItL (sV 5)) (qN 8)
 (sThen [8] (sAsg (sOp addD (sV 7) (sOfL (sLc (sR1 (sCons (sOp addD (sV 1) (sC (.int 1))) sNil)) (qN 10) sYes (sOp addD (sV 8) (sTup (sCons (sV 10) sNil))) [10]))) (qN 7))))
 (sAsg (sV 7) (qN 5))))))
 (sSeq (sFor (sItL (sV 5)) (qN 8)
 (sThen [8] (sIfS (sB (sOp eqD (sCB sumA (sCons (sV 8) sNil)) (sOp ixD (sV 3) (sC (.int 0)))))
 (sThen [9] (sSeq (sAsg (sCall F_l_grown (sCons (sV 0) (sCons (sV 2) (sCons (sV 3) (sCons (sV 8) sNil))))) (qN 9))
 (sIfS (sAnd (sB (sOp geD (sCB minS (sCons (sV 9) sNil)) (sC (.int 0)))) (sB (sOp leD (sCB maxS (sCons (sV 9) sNil)) (sV 1))))
 (sApp 4 (sV 9))
 sNext)))
 sNext)))
 (sFrz 4 (sRet (sV 4))))))
def F_l_rows : List D → Option D := bodyP 4 7 S_l_rows
def S_l_thing (F : List D → Dr → Option (D × Dr)) : SS := (sSeq (sAsg (sCallD F_l_draw 0 (sCons (sC (.int 9)) sNil)) (qN 2))
 (sSeq (sIfS (sOr (sB (sOp ltD (sV 2) (sC (.int 6)))) (sB (sOp eqD (sV 1) (sC (.int 0)))))
 (sSeq (sAsg (sLst (sCons (sC (.int 0)) (sCons (sC (.int 1)) (sCons (sUn negD (sC (.int 1))) (sCons (sC (.bool true)) (sCons (sC (.bool false)) (sCons (sC .none) (sCons (sC (.str "")) (sCons (sC (.str "few")) (sCons (sC (.str "many")) (sCons (sC (.str "thread")) (sCons (sOp powD (sC (.int 10)) (sC (.int 39))) (sCons (sC (.int 24)) (sCons (sTup (sCons (sC (.int 0)) (sCons (sC (.int 1)) sNil))) (sCons (sTup (sCons (sC (.int 1)) (sCons (sC (.int 0)) sNil))) (sCons (sTup (sCons (sC (.str "few")) (sCons (sC (.int 0)) sNil))) (sCons (sTup (sCons (sC (.str "many")) (sCons (sC (.int 3)) sNil))) sNil))))))))))))))))) (qN 3))
 (sRet (sCallD F_l_of 0 (sCons (sOp addD (sV 3) (sLst (sCons (sTup sNil) (sCons (sLst sNil) (sCons (sTup (sCons (sC (.int 0)) sNil)) (sCons (sTup (sCons (sC (.str "thread")) (sCons (sC (.int 0)) (sCons (sC (.int 1)) sNil)))) (sCons (sTup (sCons (sC (.int 1)) (sCons (sTup (sCons (sC (.int 0)) (sCons (sC (.int 0)) sNil))) sNil))) (sCons (sTup (sCons (sC (.bool true)) sNil)) (sCons (sTup (sCons (sTup (sCons (sC (.int 1)) (sCons (sTup (sCons (sC (.int 1)) sNil)) sNil))) sNil)) sNil))))))))) sNil))))
 sNext)
 (sSeq (sAsg (sOfL (sLc (sR1 (sCons (sCallD F_l_draw 0 (sCons (sC (.int 4)) sNil)) sNil)) (qN 5) sYes (sCallD F 0 (sCons (sOp subD (sV 1) (sC (.int 1))) sNil)) [5])) (qN 4))
 (sRet (sOp ixD (sLst (sCons (sV 4) (sCons (sCB tupleD (sCons (sV 4) sNil)) (sCons (sCB tupleD (sCons (sV 4) sNil)) sNil)))) (sOp subD (sV 2) (sC (.int 6))))))))
def Fn_l_thing : Nat → List D → Dr → Option (D × Dr)
  | 0 => fun _ _ => none
  | n + 1 => bodyD 1 4 (S_l_thing (Fn_l_thing n))
abbrev F_l_thing : List D → Dr → Option (D × Dr) := Fn_l_thing 4
def S_l_otherwise (F : List D → Dr → Option (D × Dr)) : SS := (sSeq (sAsgL (sListOf (sCons (sV 1) sNil)) 3)
 (sSeq (sIfS (sFlT 3 (sB (sOp eqD (sV 3) (sLst sNil))))
 (sRet (sTup (sCons (sCallD F_l_thing 0 (sCons (sC (.int 1)) sNil)) sNil)))
 sNext)
 (sSeq (sAsg (sCallD F_l_draw 0 (sCons (sFl 3 (sCB lenD (sCons (sV 3) sNil))) sNil)) (qN 4))
 (sSeq (sIfS (sAnd (sB (sIsi2 .tuple .list (sIxO 3 (sV 4)))) (sAnd (sB (sOp gtD (sV 2) (sC (.int 0)))) (sB (sOp gtD (sCallD F_l_draw 0 (sCons (sC (.int 5)) sNil)) (sC (.int 0))))))
 (sSeq (sSetI 3 (sV 4) (sCallD F 0 (sCons (sIxO 3 (sV 4)) (sCons (sOp subD (sV 2) (sC (.int 1))) sNil))))
 (sFrz 3 (sRet (sIfE (sB (sIsi .list (sV 1))) (sV 3) (sCB tupleD (sCons (sV 3) sNil))))))
 sNext)
 (sSeq (sAsg (sCallD F_l_draw 0 (sCons (sC (.int 8)) sNil)) (qN 5))
 (sSeq (sIfS (sB (sOp eqD (sV 5) (sC (.int 0))))
 (sPopAt 3 (sV 4))
 (sIfS (sB (sOp eqD (sV 5) (sC (.int 1))))
 (sInsert 3 (sV 4) (sIxO 3 (sV 4)))
 (sIfS (sB (sOp eqD (sV 5) (sC (.int 2))))
 (sSetCut 3 (sP (sV 4)) (sP (sOp addD (sV 4) (sC (.int 2)))) (sRevCut 3 (sP (sV 4)) (sP (sOp addD (sV 4) (sC (.int 2))))))
 (sIfS (sB (sOp eqD (sV 5) (sC (.int 3))))
 (sSetI 3 (sV 4) (sCallD F_l_thing 0 (sCons (sC (.int 2)) sNil)))
 (sIfS (sAnd (sB (sOp eqD (sV 5) (sC (.int 4)))) (sB (sIsi .str (sIxO 3 (sV 4)))))
 (sThen [6] (sSeq (sAsg (sIxO 3 (sV 4)) (qN 6))
 (sSetI 3 (sV 4) (sCallD F_l_of 0 (sCons (sLst (sCons (sOp addD (sV 6) (sC (.str "a"))) (sCons (sSl slS (sV 6) (sP (sC (.int 1))) sNoP) (sCons (sUpper (sV 6)) (sCons (sC (.str "")) (sCons (sC .none) (sCons (sC (.str "few")) (sCons (sC (.str "many")) sNil)))))))) sNil)))))
 (sIfS (sAnd (sB (sOp ltD (sV 5) (sC (.int 6)))) (sB (sIsi .int (sIxO 3 (sV 4)))))
 (sThen [7] (sSeq (sAsg (sIxO 3 (sV 4)) (qN 7))
 (sSetI 3 (sV 4) (sCallD F_l_of 0 (sCons (sLst (sCons (sOp addN (sV 7) (sC (.int 1))) (sCons (sOp subN (sV 7) (sC (.int 1))) (sCons (sOp subN (sC (.int 0)) (sV 7)) (sCons (sC (.bool true)) (sCons (sC (.bool false)) (sCons (sC .none) (sCons (sCB minS (sCons (sOp mulN (sC (.int 1000)) (sV 7)) (sCons (sOp powD (sC (.int 10)) (sC (.int 39))) sNil))) sNil)))))))) sNil)))))
 (sIfS (sAnd (sB (sOp eqD (sV 5) (sC (.int 6)))) (sB (sIsi .tuple (sIxO 3 (sV 4)))))
 (sSetI 3 (sV 4) (sOfL (sListOf (sCons (sIxO 3 (sV 4)) sNil))))
 (sFrz 3 (sRet (sIfE (sB (sIsi .list (sV 1))) (sCB tupleD (sCons (sV 3) sNil)) (sV 3)))))))))))
 (sFrz 3 (sRet (sIfE (sB (sIsi .list (sV 1))) (sV 3) (sCB tupleD (sCons (sV 3) sNil)))))))))))
def Fn_l_otherwise : Nat → List D → Dr → Option (D × Dr)
  | 0 => fun _ _ => none
  | n + 1 => bodyD 2 5 (S_l_otherwise (Fn_l_otherwise n))
abbrev F_l_otherwise : List D → Dr → Option (D × Dr) := Fn_l_otherwise 3
def S_l_truly : SS := (sRet (sAndV (sIsi .bool (sV 0)) (sOp eqD (sV 0) (sV 1))))
def F_l_truly : List D → Option D := bodyP 2 0 S_l_truly
def S_l_bars : SS := (sSeq (sMany [5, 6] (sAvP (sCall F_l_grown (sCons (sV 0) (sCons (sV 2) (sCons (sV 3) (sCons (sOp mulD (sTup (sCons (sC (.int 0)) sNil)) (sV 2)) sNil))))) (sAvF (sDispL sNil) sAvNil)))
 (sSeq (sFor (sR1 (sCons (sV 0) sNil)) (qN 7)
 (sThen [7] (sFor (sR3 (sCons (sOp addD (sV 7) (sV 2)) (sCons (sV 0) (sCons (sV 2) sNil)))) (qN 8)
 (sThen [8] (sIfS (sB (sOp gtD (sCB absD (sCons (sOp subD (sOp ixD (sV 5) (sV 8)) (sOp ixD (sV 5) (sV 7))) sNil)) (sV 1)))
 (sApp 6 (sTup (sCons (sC (.str "thread")) (sCons (sV 7) (sCons (sV 8) sNil)))))
 sNext)))))
 (sSeq (sIfS (sAnd (sFlT 6 (sB (sOp eqD (sV 6) (sLst sNil)))) (sB (sOp eqD (sV 4) (sLst sNil))))
 (sThen [9, 10] (sSeq (sMany [9, 10] (sAvP (sC (.int 0)) (sAvP (sC (.int 0)) sAvNil)))
 (sSeq (sFor (sR1 (sCons (sV 2) sNil)) (qN 11)
 (sThen [11, 12] (sSeq (sAsg (sOfL (sLc (sR3 (sCons (sV 11) (sCons (sV 0) (sCons (sV 2) sNil)))) (qN 7) sYes (sOp ixD (sV 5) (sV 7)) [7])) (qN 12))
 (sMany [9, 10] (sAvP (sOp subD (sV 9) (sCB minS (sCons (sV 12) sNil))) (sAvP (sOp subD (sOp addD (sV 10) (sV 1)) (sCB maxS (sCons (sV 12) sNil))) sAvNil))))))
 (sApp 6 (sIfE (sB (sOp gtD (sOp ixD (sV 3) (sC (.int 0))) (sV 10))) (sTup (sCons (sC (.str "many")) (sCons (sV 10) sNil))) (sTup (sCons (sC (.str "few")) (sCons (sV 9) sNil))))))))
 sNext)
 (sFrz 6 (sRet (sV 6))))))
def F_l_bars : List D → Option D := bodyP 5 8 S_l_bars
def S_l_are_looks : SS := (sSeq (sIfS (sOr (sNot (sB (sIsi .tuple (sV 2)))) (sB (sOp neD (sOfL (sLc (sItT (sV 2)) (qN 3) (sNot (sB (sCall F_l_is_whole (sCons (sV 3) (sCons (sC (.int 0)) (sCons (sOp subD (sV 0) (sC (.int 1))) sNil)))))) (sC (.int 1)) [3])) (sLst sNil))))
 (sRet (sC (.bool false)))
 sNext)
 (sSeq (sIfS (sB (sOp neD (sOfL (sLc (sZip (sV 2) (sSl slD (sV 2) (sP (sC (.int 1))) sNoP)) (qTup (qCons (qN 3) (qCons (qN 4) qNil))) (sNot (sB (sOp ltD (sV 3) (sV 4)))) (sC (.int 1)) [3, 4])) (sLst sNil)))
 (sRet (sC (.bool false)))
 sNext)
 (sRet (sOp eqD (sLenSetT (sOfL (sLc (sItL (sV 1)) (qN 5) sYes (sCB tupleD (sCons (sOfL (sLc (sItT (sV 2)) (qN 6) sYes (sOp ixD (sV 5) (sV 6)) [6])) sNil)) [5]))) (sCB lenD (sCons (sV 1) sNil))))))
def F_l_are_looks : List D → Option D := bodyP 3 4 S_l_are_looks
def S_l_fewest : SS := (sSeq (sAsg (sLst (sCons (sTup sNil) sNil)) (qN 2))
 (whileS (sTr (sC (.bool true))) (sThen [4] (sSeq (sFor (sItL (sV 2)) (qN 3)
 (sThen [3] (sIfS (sB (sCall F_l_are_looks (sCons (sV 0) (sCons (sV 1) (sCons (sV 3) sNil)))))
 (sRet (sV 3))
 sNext)))
 (sSeq (sAsg (sLst sNil) (qN 4))
 (sSeq (sFor (sItL (sV 2)) (qN 3)
 (sThen [3] (sAsg (sOp addD (sV 4) (sOfL (sLc (sR2 (sCons (sIfE (sB (sOp neD (sV 3) (sTup sNil))) (sOp addD (sOp ixD (sV 3) (sUn negD (sC (.int 1)))) (sC (.int 1))) (sC (.int 0))) (sCons (sV 0) sNil))) (qN 5) sYes (sOp addD (sV 3) (sTup (sCons (sV 5) sNil))) [5]))) (qN 4))))
 (sAsg (sV 4) (qN 2)))))) 30))
def F_l_fewest : List D → Option D := bodyP 2 4 S_l_fewest
def S_law : SS := (sThen [3, 4, 5, 6, 7, 8, 9, 10] (sSeq (sAsg (sCallD F_l_small 2 sNil) (qTup (qCons (qN 3) (qCons (qN 4) (qCons (qN 5) qNil)))))
 (sSeq (sMany [3, 5] (sAvP (sCB minS (sCons (sV 3) (sCons (sC (.int 11)) sNil))) (sAvP (sCB minS (sCons (sV 5) (sCons (sC (.int 5)) sNil))) sAvNil)))
 (sSeq (sAsg (sCallD F_l_told_counts 2 (sCons (sV 3) (sCons (sV 4) (sCons (sV 5) sNil)))) (qN 6))
 (sSeq (sAsg (sCall F_l_rows (sCons (sV 3) (sCons (sV 4) (sCons (sV 5) (sCons (sV 6) sNil))))) (qN 7))
 (sSeq (sMany [8, 9] (sAvP (sCall F_l_bars (sCons (sV 3) (sCons (sV 4) (sCons (sV 5) (sCons (sV 6) (sCons (sV 7) sNil)))))) (sAvP (sCall F_looks (sCons (sV 3) (sCons (sV 4) (sCons (sV 5) (sCons (sV 6) sNil))))) sAvNil)))
 (sSeq (sIfS (sOr (sB (sOp neD (sCall F_bar (sCons (sV 3) (sCons (sV 4) (sCons (sV 5) (sCons (sV 6) sNil))))) (sOp ixD (sOp addD (sV 8) (sLst (sCons (sC .none) sNil))) (sC (.int 0))))) (sB (sOp neD (sV 9) (sIfE (sB (sOp eqD (sV 7) (sLst sNil))) (sC .none) (sCall F_l_fewest (sCons (sV 3) (sCons (sV 7) sNil)))))))
 (sRet (sC (.bool false)))
 sNext)
 (sSeq (sAsg (sLst (sCons (sCallD F_l_thing 2 (sCons (sC (.int 2)) sNil)) (sCons (sC .none) (sCons (sOfL (sRgL1 (sV 3))) (sCons (sCB tupleD (sCons (sOfL (sRgL1 (sV 3))) sNil)) sNil))))) (qN 10))
 (sSeq (sIfS (sB (sOp neD (sV 8) (sLst sNil)))
 (sThen [11] (sSeq (sAsg (sCallD F_l_otherwise 2 (sCons (sOp ixD (sV 8) (sC (.int 0))) (sCons (sC (.int 0)) sNil))) (qN 11))
 (sAsg (sOp addD (sOp addD (sV 10) (sSl slD (sV 8) sNoP (sP (sC (.int 9))))) (sLst (sCons (sV 11) (sCons (sOfL (sListOf (sCons (sOp ixD (sV 8) (sC (.int 0))) sNil))) (sCons (sRevA (sOp ixD (sV 8) (sC (.int 0)))) (sCons (sOp addD (sOp ixD (sV 8) (sC (.int 0))) (sTup (sCons (sC (.int 0)) sNil))) sNil)))))) (qN 10))))
 sNext)
 (sSeq (sFor (sR1 (sCons (sC (.int 6)) sNil)) (qN 12)
 (sThen [12, 13, 14] (sSeq (sAsg (sTup (sCons (sCallD F_l_draw 2 (sCons (sV 3) sNil)) (sCons (sCallD F_l_draw 2 (sCons (sV 3) sNil)) sNil))) (qN 13))
 (sSeq (sAsg (sOp subD (sOp addD (sOp ixD (sV 6) (sC (.int 0))) (sCallD F_l_draw 2 (sCons (sC (.int 5)) sNil))) (sC (.int 2))) (qN 14))
 (sSeq (sAsgL (sAddL (sV 10) (sLst (sCons (sOp addD (sTup (sCons (sC (.str "thread")) sNil)) (sV 13)) (sCons (sTup (sCons (sC (.str "few")) (sCons (sV 14) sNil))) (sCons (sTup (sCons (sC (.str "many")) (sCons (sV 14) sNil))) (sCons (sTup (sCons (sC (.str "thread")) (sCons (sC (.bool true)) (sCons (sOp ixD (sV 13) (sC (.int 1))) sNil)))) (sCons (sV 13) sNil))))))) 10)
 (sSeq (sApp 10 (sCB tupleD (sCons (sOfL (sLc (sR1 (sCons (sV 3) sNil)) (qN 17) (sB (sOp eqD (sCallD F_l_draw 2 (sCons (sC (.int 2)) sNil)) (sC (.int 0)))) (sV 17) [17])) sNil)))
 (sFrz 10 sNext)))))))
 (sFor (sItL (sOp addD (sV 10) (sIfE (sB (sOp notND (sV 9) (sC .none))) (sLst (sCons (sV 9) (sCons (sOp addD (sV 9) (sTup (sCons (sC (.int 0)) sNil))) (sCons (sSl slD (sV 9) sNoP (sP (sUn negD (sC (.int 1))))) (sCons (sRevA (sV 9)) sNil))))) (sLst sNil)))) (qN 15)
 (sThen [15, 16] (sSeq (sAsg (sAndV (sOp inD (sV 15) (sV 8)) (sOp eqD (sOfL (sLc (sItT (sV 15)) (qN 18) (sB (sIsi .bool (sV 18))) (sC (.int 1)) [18])) (sLst sNil))) (qN 16))
 (sSeq (sIfS (sNot (sB (sCall F_l_truly (sCons (sCall F_is_bar (sCons (sV 3) (sCons (sV 4) (sCons (sV 5) (sCons (sV 6) (sCons (sV 15) sNil)))))) (sCons (sV 16) sNil)))))
 (sRet (sC (.bool false)))
 sNext)
 (sIfS (sNot (sB (sCall F_l_truly (sCons (sCall F_are_looks (sCons (sV 3) (sCons (sV 4) (sCons (sV 5) (sCons (sV 6) (sCons (sV 15) sNil)))))) (sCons (sCall F_l_are_looks (sCons (sV 3) (sCons (sV 7) (sCons (sV 15) sNil)))) sNil)))))
 (sRet (sC (.bool false)))
 sNext)))))))))))))))
def LawHolds : Prop := ∀ (ns : List Int) (i : Nat), ns.length ≤ 63 → i < 1000 → ∃ c, cellF ns i = some c ∧ ∀ v, ∃ ρ' c', S_law (rhoL v i 16) c = some (.nx, ρ', c') ∧ ρ'[0]? = some (.op v) ∧ ρ'.length = 16 + 3
end X
namespace X
open PySem PySem.Spec L2 DL
structure TX (K : PySem.W.Frag) (mg : Str → Option Value) where
  f_is_between : Addr
  d_is_between : FuncData
  F_is_between : Fun K "is_between" "is_between" s_is_between f_is_between d_is_between
  g_is_between : mg "is_between" = some (.ref f_is_between)
  f_rises : Addr
  d_rises : FuncData
  F_rises : Fun K "rises" "rises" s_rises f_rises d_rises
  g_rises : mg "rises" = some (.ref f_rises)
  f_ranges : Addr
  d_ranges : FuncData
  F_ranges : Fun K "ranges" "ranges" s_ranges f_ranges d_ranges
  g_ranges : mg "ranges" = some (.ref f_ranges)
  f_tight : Addr
  d_tight : FuncData
  F_tight : Fun K "tight" "tight" s_tight f_tight d_tight
  g_tight : mg "tight" = some (.ref f_tight)
  f_thread_bars : Addr
  d_thread_bars : FuncData
  F_thread_bars : Fun K "thread_bars" "thread_bars" s_thread_bars f_thread_bars d_thread_bars
  g_thread_bars : mg "thread_bars" = some (.ref f_thread_bars)
  f_bar : Addr
  d_bar : FuncData
  F_bar : Fun K "bar" "bar" s_bar f_bar d_bar
  g_bar : mg "bar" = some (.ref f_bar)
  f_is_bar : Addr
  d_is_bar : FuncData
  F_is_bar : Fun K "is_bar" "is_bar" s_is_bar f_is_bar d_is_bar
  g_is_bar : mg "is_bar" = some (.ref f_is_bar)
  f_open_threads : Addr
  d_open_threads : FuncData
  F_open_threads : Fun K "open_threads" "open_threads" s_open_threads f_open_threads d_open_threads
  g_open_threads : mg "open_threads" = some (.ref f_open_threads)
  f_looks : Addr
  d_looks : FuncData
  F_looks : Fun K "looks" "looks" s_looks f_looks d_looks
  g_looks : mg "looks" = some (.ref f_looks)
  f_are_looks : Addr
  d_are_looks : FuncData
  F_are_looks : Fun K "are_looks" "are_looks" s_are_looks f_are_looks d_are_looks
  g_are_looks : mg "are_looks" = some (.ref f_are_looks)
  f_l_grown : Addr
  d_l_grown : FuncData
  F_l_grown : Fun K "_law_grown" "_law_grown" s_l_grown f_l_grown d_l_grown
  g_l_grown : mg "_law_grown" = some (.ref f_l_grown)
  f_l_is_whole : Addr
  d_l_is_whole : FuncData
  F_l_is_whole : Fun K "_law_is_whole" "_law_is_whole" s_l_is_whole f_l_is_whole d_l_is_whole
  g_l_is_whole : mg "_law_is_whole" = some (.ref f_l_is_whole)
  f_l_draws : Addr
  d_l_draws : FuncData
  F_l_draws : Fun K "_law_draws" "_law_draws" s_l_draws f_l_draws d_l_draws
  g_l_draws : mg "_law_draws" = some (.ref f_l_draws)
  f_l_draw : Addr
  d_l_draw : FuncData
  F_l_draw : Fun K "_law_draw" "_law_draw" s_l_draw f_l_draw d_l_draw
  g_l_draw : mg "_law_draw" = some (.ref f_l_draw)
  f_l_of : Addr
  d_l_of : FuncData
  F_l_of : Fun K "_law_of" "_law_of" s_l_of f_l_of d_l_of
  g_l_of : mg "_law_of" = some (.ref f_l_of)
  f_l_small : Addr
  d_l_small : FuncData
  F_l_small : Fun K "_law_small" "_law_small" s_l_small f_l_small d_l_small
  g_l_small : mg "_law_small" = some (.ref f_l_small)
  f_l_counts : Addr
  d_l_counts : FuncData
  F_l_counts : Fun K "_law_counts" "_law_counts" s_l_counts f_l_counts d_l_counts
  g_l_counts : mg "_law_counts" = some (.ref f_l_counts)
  f_l_row : Addr
  d_l_row : FuncData
  F_l_row : Fun K "_law_row" "_law_row" s_l_row f_l_row d_l_row
  g_l_row : mg "_law_row" = some (.ref f_l_row)
  f_l_told_counts : Addr
  d_l_told_counts : FuncData
  F_l_told_counts : Fun K "_law_told_counts" "_law_told_counts" s_l_told_counts f_l_told_counts d_l_told_counts
  g_l_told_counts : mg "_law_told_counts" = some (.ref f_l_told_counts)
  f_l_rows : Addr
  d_l_rows : FuncData
  F_l_rows : Fun K "_law_rows" "_law_rows" s_l_rows f_l_rows d_l_rows
  g_l_rows : mg "_law_rows" = some (.ref f_l_rows)
  f_l_thing : Addr
  d_l_thing : FuncData
  F_l_thing : Fun K "_law_thing" "_law_thing" s_l_thing f_l_thing d_l_thing
  g_l_thing : mg "_law_thing" = some (.ref f_l_thing)
  f_l_otherwise : Addr
  d_l_otherwise : FuncData
  F_l_otherwise : Fun K "_law_otherwise" "_law_otherwise" s_l_otherwise f_l_otherwise d_l_otherwise
  g_l_otherwise : mg "_law_otherwise" = some (.ref f_l_otherwise)
  f_l_truly : Addr
  d_l_truly : FuncData
  F_l_truly : Fun K "_law_truly" "_law_truly" s_l_truly f_l_truly d_l_truly
  g_l_truly : mg "_law_truly" = some (.ref f_l_truly)
  f_l_bars : Addr
  d_l_bars : FuncData
  F_l_bars : Fun K "_law_bars" "_law_bars" s_l_bars f_l_bars d_l_bars
  g_l_bars : mg "_law_bars" = some (.ref f_l_bars)
  f_l_are_looks : Addr
  d_l_are_looks : FuncData
  F_l_are_looks : Fun K "_law_are_looks" "_law_are_looks" s_l_are_looks f_l_are_looks d_l_are_looks
  g_l_are_looks : mg "_law_are_looks" = some (.ref f_l_are_looks)
  f_l_fewest : Addr
  d_l_fewest : FuncData
  F_l_fewest : Fun K "_law_fewest" "_law_fewest" s_l_fewest f_l_fewest d_l_fewest
  g_l_fewest : mg "_law_fewest" = some (.ref f_l_fewest)
  f_law : Addr
  d_law : FuncData
  F_law : Fun K "law" "law" s_law f_law d_law
  g_law : mg "law" = some (.ref f_law)
  b_abs : mg "abs" = none
  b_all : mg "all" = none
  b_any : mg "any" = none
  b_bool : mg "bool" = none
  b_enumerate : mg "enumerate" = none
  b_int : mg "int" = none
  b_isinstance : mg "isinstance" = none
  b_len : mg "len" = none
  b_list : mg "list" = none
  b_max : mg "max" = none
  b_min : mg "min" = none
  b_range : mg "range" = none
  b_set : mg "set" = none
  b_str : mg "str" = none
  b_sum : mg "sum" = none
  b_tuple : mg "tuple" = none
  b_zip : mg "zip" = none
theorem b_is_between {K : PySem.W.Frag} {mg : Str → Option Value} (T : TX K mg) : Binds K T.d_is_between ["thing", "low", "high"] [] := T.F_is_between.binds (ps := ["thing", "low", "high"]) fun _ _ _ _ _ _ us hl => match us, hl with | [_, _, _], _ => rfl
theorem b_rises {K : PySem.W.Frag} {mg : Str → Option Value} (T : TX K mg) : Binds K T.d_rises ["places", "frame", "counts"] [] := T.F_rises.binds (ps := ["places", "frame", "counts"]) fun _ _ _ _ _ _ us hl => match us, hl with | [_, _, _], _ => rfl
theorem b_ranges {K : PySem.W.Frag} {mg : Str → Option Value} (T : TX K mg) : Binds K T.d_ranges ["places", "cap", "frame", "counts"] [] := T.F_ranges.binds (ps := ["places", "cap", "frame", "counts"]) fun _ _ _ _ _ _ us hl => match us, hl with | [_, _, _, _], _ => rfl
theorem b_tight {K : PySem.W.Frag} {mg : Str → Option Value} (T : TX K mg) : Binds K T.d_tight ["places", "cap", "frame", "counts"] [] := T.F_tight.binds (ps := ["places", "cap", "frame", "counts"]) fun _ _ _ _ _ _ us hl => match us, hl with | [_, _, _, _], _ => rfl
theorem b_thread_bars {K : PySem.W.Frag} {mg : Str → Option Value} (T : TX K mg) : Binds K T.d_thread_bars ["places", "cap", "frame", "counts"] [] := T.F_thread_bars.binds (ps := ["places", "cap", "frame", "counts"]) fun _ _ _ _ _ _ us hl => match us, hl with | [_, _, _, _], _ => rfl
theorem b_bar {K : PySem.W.Frag} {mg : Str → Option Value} (T : TX K mg) : Binds K T.d_bar ["places", "cap", "frame", "counts"] [] := T.F_bar.binds (ps := ["places", "cap", "frame", "counts"]) fun _ _ _ _ _ _ us hl => match us, hl with | [_, _, _, _], _ => rfl
theorem b_is_bar {K : PySem.W.Frag} {mg : Str → Option Value} (T : TX K mg) : Binds K T.d_is_bar ["places", "cap", "frame", "counts", "thing"] [] := T.F_is_bar.binds (ps := ["places", "cap", "frame", "counts", "thing"]) fun _ _ _ _ _ _ us hl => match us, hl with | [_, _, _, _, _], _ => rfl
theorem b_open_threads {K : PySem.W.Frag} {mg : Str → Option Value} (T : TX K mg) : Binds K T.d_open_threads ["places", "cap", "frame", "counts"] [] := T.F_open_threads.binds (ps := ["places", "cap", "frame", "counts"]) fun _ _ _ _ _ _ us hl => match us, hl with | [_, _, _, _], _ => rfl
theorem b_looks {K : PySem.W.Frag} {mg : Str → Option Value} (T : TX K mg) : Binds K T.d_looks ["places", "cap", "frame", "counts"] [] := T.F_looks.binds (ps := ["places", "cap", "frame", "counts"]) fun _ _ _ _ _ _ us hl => match us, hl with | [_, _, _, _], _ => rfl
theorem b_are_looks {K : PySem.W.Frag} {mg : Str → Option Value} (T : TX K mg) : Binds K T.d_are_looks ["places", "cap", "frame", "counts", "thing"] [] := T.F_are_looks.binds (ps := ["places", "cap", "frame", "counts", "thing"]) fun _ _ _ _ _ _ us hl => match us, hl with | [_, _, _, _, _], _ => rfl
theorem b_l_grown {K : PySem.W.Frag} {mg : Str → Option Value} (T : TX K mg) : Binds K T.d_l_grown ["places", "frame", "counts", "firsts"] [] := T.F_l_grown.binds (ps := ["places", "frame", "counts", "firsts"]) fun _ _ _ _ _ _ us hl => match us, hl with | [_, _, _, _], _ => rfl
theorem b_l_is_whole {K : PySem.W.Frag} {mg : Str → Option Value} (T : TX K mg) : Binds K T.d_l_is_whole ["thing", "low", "high"] [] := T.F_l_is_whole.binds (ps := ["thing", "low", "high"]) fun _ _ _ _ _ _ us hl => match us, hl with | [_, _, _], _ => rfl
theorem b_l_draws {K : PySem.W.Frag} {mg : Str → Option Value} (T : TX K mg) : Binds K T.d_l_draws ["script", "k"] [] := T.F_l_draws.binds (ps := ["script", "k"]) fun _ _ _ _ _ _ us hl => match us, hl with | [_, _], _ => rfl
theorem b_l_draw {K : PySem.W.Frag} {mg : Str → Option Value} (T : TX K mg) : Binds K T.d_l_draw ["draws", "many"] [] := T.F_l_draw.binds (ps := ["draws", "many"]) fun _ _ _ _ _ _ us hl => match us, hl with | [_, _], _ => rfl
theorem b_l_of {K : PySem.W.Frag} {mg : Str → Option Value} (T : TX K mg) : Binds K T.d_l_of ["draws", "some"] [] := T.F_l_of.binds (ps := ["draws", "some"]) fun _ _ _ _ _ _ us hl => match us, hl with | [_, _], _ => rfl
theorem b_l_small {K : PySem.W.Frag} {mg : Str → Option Value} (T : TX K mg) : Binds K T.d_l_small ["draws"] [] := T.F_l_small.binds (ps := ["draws"]) fun _ _ _ _ _ _ us hl => match us, hl with | [_], _ => rfl
theorem b_l_counts {K : PySem.W.Frag} {mg : Str → Option Value} (T : TX K mg) : Binds K T.d_l_counts ["row", "frame"] [] := T.F_l_counts.binds (ps := ["row", "frame"]) fun _ _ _ _ _ _ us hl => match us, hl with | [_, _], _ => rfl
theorem b_l_row {K : PySem.W.Frag} {mg : Str → Option Value} (T : TX K mg) : Binds K T.d_l_row ["draws", "places", "cap"] [] := T.F_l_row.binds (ps := ["draws", "places", "cap"]) fun _ _ _ _ _ _ us hl => match us, hl with | [_, _, _], _ => rfl
theorem b_l_told_counts {K : PySem.W.Frag} {mg : Str → Option Value} (T : TX K mg) : Binds K T.d_l_told_counts ["draws", "places", "cap", "frame"] [] := T.F_l_told_counts.binds (ps := ["draws", "places", "cap", "frame"]) fun _ _ _ _ _ _ us hl => match us, hl with | [_, _, _, _], _ => rfl
theorem b_l_rows {K : PySem.W.Frag} {mg : Str → Option Value} (T : TX K mg) : Binds K T.d_l_rows ["places", "cap", "frame", "counts"] [] := T.F_l_rows.binds (ps := ["places", "cap", "frame", "counts"]) fun _ _ _ _ _ _ us hl => match us, hl with | [_, _, _, _], _ => rfl
theorem b_l_thing {K : PySem.W.Frag} {mg : Str → Option Value} (T : TX K mg) : Binds K T.d_l_thing ["draws", "deep"] [] := T.F_l_thing.binds (ps := ["draws", "deep"]) fun _ _ _ _ _ _ us hl => match us, hl with | [_, _], _ => rfl
theorem b_l_otherwise {K : PySem.W.Frag} {mg : Str → Option Value} (T : TX K mg) : Binds K T.d_l_otherwise ["draws", "thing", "deep"] [] := T.F_l_otherwise.binds (ps := ["draws", "thing", "deep"]) fun _ _ _ _ _ _ us hl => match us, hl with | [_, _, _], _ => rfl
theorem b_l_truly {K : PySem.W.Frag} {mg : Str → Option Value} (T : TX K mg) : Binds K T.d_l_truly ["found", "due"] [] := T.F_l_truly.binds (ps := ["found", "due"]) fun _ _ _ _ _ _ us hl => match us, hl with | [_, _], _ => rfl
theorem b_l_bars {K : PySem.W.Frag} {mg : Str → Option Value} (T : TX K mg) : Binds K T.d_l_bars ["places", "cap", "frame", "counts", "rows"] [] := T.F_l_bars.binds (ps := ["places", "cap", "frame", "counts", "rows"]) fun _ _ _ _ _ _ us hl => match us, hl with | [_, _, _, _, _], _ => rfl
theorem b_l_are_looks {K : PySem.W.Frag} {mg : Str → Option Value} (T : TX K mg) : Binds K T.d_l_are_looks ["places", "rows", "thing"] [] := T.F_l_are_looks.binds (ps := ["places", "rows", "thing"]) fun _ _ _ _ _ _ us hl => match us, hl with | [_, _, _], _ => rfl
theorem b_l_fewest {K : PySem.W.Frag} {mg : Str → Option Value} (T : TX K mg) : Binds K T.d_l_fewest ["places", "rows"] [] := T.F_l_fewest.binds (ps := ["places", "rows"]) fun _ _ _ _ _ _ us hl => match us, hl with | [_, _], _ => rfl
theorem b_law {K : PySem.W.Frag} {mg : Str → Option Value} (T : TX K mg) : Binds K T.d_law ["script"] [] := T.F_law.binds (ps := ["script"]) fun _ _ _ _ _ _ us hl => match us, hl with | [_], _ => rfl
section
variable {P : Program} {w : World} {K : PySem.W.Frag} {mg : Str → Option Value} {base : Heap}
theorem ok_is_between (T : TX K mg) : FnOk P w K mg base CX0 1 T.f_is_between T.d_is_between ["thing", "low", "high"] (spP K F_is_between) := by
  refine okP (k := 0) (ps := ["thing", "low", "high"]) (n := 0) T.F_is_between sc_is_between rfl fun cdv A outer s H E hr => ⟨_, (pss_one (ps_ret (pe_and (pe_callB (call_isiK (K := K) rfl) (by rfl) T.b_isinstance (by decide +kernel) (pa_cons (pv 0) (pa_cons (pe_bltn (v := .ty "int") (by rfl) T.b_int (by decide +kernel) rfl) pa_nil))) (pe_and (pe_not (pe_callB (call_isiK (K := K) rfl) (by rfl) T.b_isinstance (by decide +kernel) (pa_cons (pv 0) (pa_cons (pe_bltn (v := .ty "bool") (by rfl) T.b_bool (by decide +kernel) rfl) pa_nil)))) (pe_one (pe_chain op_le op_le (pv 1) (pv 0) (pv 2))))))), ?_⟩
  exact (imp_ret (imp_andV (imp_isi (k := .int) (imp_v 0)) (imp_andV (imp_notV (imp_isi (k := .bool) (imp_v 0))) (imp_chain d_le d_le (imp_v 1) (imp_v 0) (imp_v 2)))))
theorem ok_rises (T : TX K mg) : FnOk P w K mg base CX0 1 T.f_rises T.d_rises ["places", "frame", "counts"] (spP K F_rises) := by
  refine okP (k := 0) (ps := ["places", "frame", "counts"]) (n := 3) T.F_rises sc_rises rfl fun cdv A outer s H E hr => ⟨_, (pss_cons (ps_set (i := 3) sc_rises.nd rfl (by first | exact Or.inl rfl | exact Or.inr rfl) (pe_op (op_mulK (K := K) rfl) (pe_lst (pa_cons pe_int pa_nil)) (pv 1)))
 (pss_cons (ps_for PassesOwn.never rfl (pi_range2 (by rfl) T.b_range (pa_cons (pv 1) (pa_cons (pv 0) pa_nil))) (pg_name (i := 4) sc_rises.nd rfl (by first | exact Or.inl rfl | exact Or.inr rfl)) (pss_cons (ps_set (i := 5) sc_rises.nd rfl (by first | exact Or.inl rfl | exact Or.inr rfl) (pe_op op_sub (pv 4) (pv 1)))
 (pss_one (ps_expr (pe_bm PySem.F.plainAttrs_list PySem.F.slot_list_append PySem.F.type_list_append mt_append (pv 3) (pa_cons (pe_op op_sub (pe_op (op_addK (K := K) rfl) (pe_ix (ix_K (K := K) rfl) (pv 3) (pv 5) (fun _ _ => rfl)) (pe_ix (ix_K (K := K) rfl) (pv 2) (pe_op (op_addK (K := K) rfl) (pv 5) pe_int) (fun _ _ => rfl))) (pe_ix (ix_K (K := K) rfl) (pv 2) (pv 5) (fun _ _ => rfl))) pa_nil))))))
 (pss_one (ps_ret (pv 3))))), ?_⟩
  exact (imp_seq (imp_asgL 3 (imp_repL (imp_dispL (imp_cons imp_int imp_nil)) (imp_v 1)))
 (imp_seq (imp_for (imp_r2 (imp_cons (imp_v 1) (imp_cons (imp_v 0) imp_nil))) (imp_gN 4)
 (imp_then [4, 5] (imp_seq (imp_asg (imp_op d_sub (imp_v 4) (imp_v 1)) (imp_gN 5))
 (imp_app (i := 3) (imp_op d_sub (imp_op d_add (imp_ixO (i := 3) (imp_v 5)) (imp_op d_ix (imp_v 2) (imp_op d_add (imp_v 5) imp_int))) (imp_op d_ix (imp_v 2) (imp_v 5)))))))
 (imp_frz 3 (imp_ret (imp_v 3)))))
theorem ok_ranges (T : TX K mg) : FnOk P w K mg base CX0 2 T.f_ranges T.d_ranges ["places", "cap", "frame", "counts"] (spP K F_ranges) := by
  refine okP (k := 1) (ps := ["places", "cap", "frame", "counts"]) (n := 6) T.F_ranges sc_ranges rfl fun cdv A outer s H E hr => ⟨_, (pss_cons (ps_par (i := 4) (j := 5) (by rfl) sc_ranges.nd rfl rfl (by decide) rfl rfl (pa_cons (pe_call (ok_rises T) (hr.mono (by decide)) (by rfl) T.g_rises T.F_rises.kp (b_rises T) .nil pass0 (pa_cons (pv 0) (pa_cons (pv 2) (pa_cons (pv 3) pa_nil)))) (pa_cons (pe_lst pa_nil) pa_nil)) (by rfl))
 (pss_cons (ps_for PassesOwn.never rfl (pi_range1 (by rfl) T.b_range (pa_cons (pv 2) pa_nil)) (pg_name (i := 6) sc_ranges.nd rfl (by first | exact Or.inl rfl | exact Or.inr rfl)) (pss_cons (ps_set (i := 7) sc_ranges.nd rfl (by first | exact Or.inl rfl | exact Or.inr rfl) (pe_slice3 (pv 4) (po_some (pv 6)) po_none (po_some (pv 2))))
 (pss_cons (ps_par (i := 8) (j := 9) (by rfl) sc_ranges.nd rfl rfl (by decide) rfl rfl (pa_cons (pe_op op_sub pe_int (pe_callB (cr_minS (K := K) rfl rfl) (by rfl) T.b_min (by decide +kernel) (pa_cons (pv 7) pa_nil))) (pa_cons (pe_op op_sub (pv 1) (pe_callB (cr_maxS (K := K) rfl rfl) (by rfl) T.b_max (by decide +kernel) (pa_cons (pv 7) pa_nil))) pa_nil)) (by rfl))
 (pss_one (ps_expr (pe_bm PySem.F.plainAttrs_list PySem.F.slot_list_append PySem.F.type_list_append mt_append (pv 5) (pa_cons (pe_ifExp (pt_cmpR op_le (pv 8) (pv 9) (nomark _)) (pe_tup (pa_cons (pv 8) (pa_cons (pv 9) pa_nil))) pe_non) pa_nil)))))))
 (pss_one (ps_ret (pv 5))))), ?_⟩
  exact (imp_seq (imp_many2 (imp_avP (imp_call (F := F_rises) (imp_cons (imp_v 0) (imp_cons (imp_v 2) (imp_cons (imp_v 3) imp_nil)))) (imp_avF (imp_dispL imp_nil) imp_avNil)))
 (imp_seq (imp_for (imp_r1 (imp_cons (imp_v 2) imp_nil)) (imp_gN 6)
 (imp_then [6, 7, 8, 9] (imp_seq (imp_asg (imp_sl3 (imp_v 4) (imp_p (imp_v 6)) imp_noP (imp_p (imp_v 2))) (imp_gN 7))
 (imp_seq (imp_many2 (imp_avP (imp_op d_sub imp_int (imp_cb d_minS (imp_cons (imp_v 7) imp_nil))) (imp_avP (imp_op d_sub (imp_v 1) (imp_cb d_maxS (imp_cons (imp_v 7) imp_nil))) imp_avNil)))
 (imp_app (i := 5) (imp_ifE (imp_test (imp_op d_le (imp_v 8) (imp_v 9))) (imp_tup (imp_cons (imp_v 8) (imp_cons (imp_v 9) imp_nil))) imp_non))))))
 (imp_frz 5 (imp_ret (imp_v 5)))))
theorem ok_tight (T : TX K mg) : FnOk P w K mg base CX0 3 T.f_tight T.d_tight ["places", "cap", "frame", "counts"] (spP K F_tight) := by
  refine okP (k := 2) (ps := ["places", "cap", "frame", "counts"]) (n := 5) T.F_tight sc_tight rfl fun cdv A outer s H E hr => ⟨_, (pss_cons (ps_set (i := 4) sc_tight.nd rfl (by first | exact Or.inl rfl | exact Or.inr rfl) (pe_call (ok_ranges T) (hr.mono (by decide)) (by rfl) T.g_ranges T.F_ranges.kp (b_ranges T) .nil pass0 (pa_cons (pv 0) (pa_cons (pv 1) (pa_cons (pv 2) (pa_cons (pv 3) pa_nil))))))
 (pss_cons (ps_if (pt_cmpR (op_inK (K := K) rfl (room65 hr)) pe_non (pv 4) (by rfl)) (pss_one (ps_ret pe_non)) pss_nil)
 (pss_cons (ps_asg (pe_tup (pa_cons (pe_callB (cr_sumA (K := K) rfl rfl) (by rfl) T.b_sum (by decide +kernel) (pa_cons (pe_lc (own := [("one", 8)]) (by rfl) sc_tight.nd (pi_listK (K := K) rfl (pv 4)) (blkOk_by (own := [("one", 8)]) (N := N_tight) (sc := defScope s_tight) (by decide +kernel)) (fun _ _ _ _ _ => (pg_name (i := 8) sc_tight.nd rfl (by first | exact Or.inl rfl | exact Or.inr rfl))) (fun _ _ _ _ _ => pts_nil) (fun _ _ _ _ _ => (pe_ix (ix_K (K := K) rfl) (pv 8) pe_int (fun _ _ => rfl)))) pa_nil)) (pa_cons (pe_callB (cr_sumA (K := K) rfl rfl) (by rfl) T.b_sum (by decide +kernel) (pa_cons (pe_lc (own := [("one", 8)]) (by rfl) sc_tight.nd (pi_listK (K := K) rfl (pv 4)) (blkOk_by (own := [("one", 8)]) (N := N_tight) (sc := defScope s_tight) (by decide +kernel)) (fun _ _ _ _ _ => (pg_name (i := 8) sc_tight.nd rfl (by first | exact Or.inl rfl | exact Or.inr rfl))) (fun _ _ _ _ _ => pts_nil) (fun _ _ _ _ _ => (pe_ix (ix_K (K := K) rfl) (pv 8) pe_int (fun _ _ => rfl)))) pa_nil)) pa_nil))) (pg_tupK (K := K) (n := 2) rfl (by rfl) (pgs_cons (pg_name (i := 5) sc_tight.nd rfl (by first | exact Or.inl rfl | exact Or.inr rfl)) (pgs_cons (pg_name (i := 6) sc_tight.nd rfl (by first | exact Or.inl rfl | exact Or.inr rfl)) pgs_nil))))
 (pss_cons (ps_set (i := 7) sc_tight.nd rfl (by first | exact Or.inl rfl | exact Or.inr rfl) (pe_ix (ix_K (K := K) rfl) (pv 3) pe_int (fun _ _ => rfl)))
 (pss_cons (ps_if (pt_not (pt_chain op_le op_le (pv 5) (pv 7) (pv 6))) (pss_one (ps_ret pe_non)) pss_nil)
 (pss_one (ps_ret (pe_lc (own := [("one", 8)]) (by rfl) sc_tight.nd (pi_listK (K := K) rfl (pv 4)) (blkOk_by (own := [("one", 8)]) (N := N_tight) (sc := defScope s_tight) (by decide +kernel)) (fun _ _ _ _ _ => (pg_name (i := 8) sc_tight.nd rfl (by first | exact Or.inl rfl | exact Or.inr rfl))) (fun _ _ _ _ _ => pts_nil) (fun _ _ _ _ _ => (pe_tup (pa_cons (pe_callB (cr_maxS (K := K) rfl rfl) (by rfl) T.b_max (by decide +kernel) (pa_cons (pe_ix (ix_K (K := K) rfl) (pv 8) pe_int (fun _ _ => rfl)) (pa_cons (pe_op (op_addK (K := K) rfl) (pe_op op_sub (pv 7) (pv 6)) (pe_ix (ix_K (K := K) rfl) (pv 8) pe_int (fun _ _ => rfl))) pa_nil))) (pa_cons (pe_callB (cr_minS (K := K) rfl rfl) (by rfl) T.b_min (by decide +kernel) (pa_cons (pe_ix (ix_K (K := K) rfl) (pv 8) pe_int (fun _ _ => rfl)) (pa_cons (pe_op (op_addK (K := K) rfl) (pe_op op_sub (pv 7) (pv 5)) (pe_ix (ix_K (K := K) rfl) (pv 8) pe_int (fun _ _ => rfl))) pa_nil))) pa_nil)))))))))))), ?_⟩
  exact (imp_seq (imp_asg (imp_call (F := F_ranges) (imp_cons (imp_v 0) (imp_cons (imp_v 1) (imp_cons (imp_v 2) (imp_cons (imp_v 3) imp_nil))))) (imp_gN 4))
 (imp_seq (imp_if (imp_test (imp_op d_in imp_non (imp_v 4)))
 (imp_ret imp_non)
 imp_next)
 (imp_seq (imp_manyT (is := [5, 6]) (imp_avP (imp_cb d_sumA (imp_cons (imp_ofL (imp_lc (vs := [8]) (imp_iL (imp_v 4)) (imp_gN 8) (only_N (by decide)) mono_N imp_yes (imp_op d_ix (imp_v 8) imp_int))) imp_nil)) (imp_avP (imp_cb d_sumA (imp_cons (imp_ofL (imp_lc (vs := [8]) (imp_iL (imp_v 4)) (imp_gN 8) (only_N (by decide)) mono_N imp_yes (imp_op d_ix (imp_v 8) imp_int))) imp_nil)) imp_avNil)) (by decide))
 (imp_seq (imp_asg (imp_op d_ix (imp_v 3) imp_int) (imp_gN 7))
 (imp_seq (imp_if (imp_not (imp_test (imp_chain d_le d_le (imp_v 5) (imp_v 7) (imp_v 6))))
 (imp_ret imp_non)
 imp_next)
 (imp_ret (imp_ofL (imp_lc (vs := [8]) (imp_iL (imp_v 4)) (imp_gN 8) (only_N (by decide)) mono_N imp_yes (imp_tup (imp_cons (imp_cb d_maxS (imp_cons (imp_op d_ix (imp_v 8) imp_int) (imp_cons (imp_op d_add (imp_op d_sub (imp_v 7) (imp_v 6)) (imp_op d_ix (imp_v 8) imp_int)) imp_nil))) (imp_cons (imp_cb d_minS (imp_cons (imp_op d_ix (imp_v 8) imp_int) (imp_cons (imp_op d_add (imp_op d_sub (imp_v 7) (imp_v 5)) (imp_op d_ix (imp_v 8) imp_int)) imp_nil))) imp_nil)))))))))))
theorem ok_thread_bars (T : TX K mg) : FnOk P w K mg base CX0 2 T.f_thread_bars T.d_thread_bars ["places", "cap", "frame", "counts"] (spP K F_thread_bars) := by
  refine okP (k := 1) (ps := ["places", "cap", "frame", "counts"]) (n := 4) T.F_thread_bars sc_thread_bars rfl fun cdv A outer s H E hr => ⟨_, (pss_cons (ps_par (i := 4) (j := 5) (by rfl) sc_thread_bars.nd rfl rfl (by decide) rfl rfl (pa_cons (pe_call (ok_rises T) (hr.mono (by decide)) (by rfl) T.g_rises T.F_rises.kp (b_rises T) .nil pass0 (pa_cons (pv 0) (pa_cons (pv 2) (pa_cons (pv 3) pa_nil)))) (pa_cons (pe_lst pa_nil) pa_nil)) (by rfl))
 (pss_cons (ps_for PassesOwn.never rfl (pi_range1 (by rfl) T.b_range (pa_cons (pv 0) pa_nil)) (pg_name (i := 6) sc_thread_bars.nd rfl (by first | exact Or.inl rfl | exact Or.inr rfl)) (pss_one (ps_for PassesOwn.never rfl (pi_range3 (by rfl) T.b_range (pa_cons (pe_op (op_addK (K := K) rfl) (pv 6) (pv 2)) (pa_cons (pv 0) (pa_cons (pv 2) pa_nil)))) (pg_name (i := 7) sc_thread_bars.nd rfl (by first | exact Or.inl rfl | exact Or.inr rfl)) (pss_one (ps_if (pt_cmpR op_gt (pe_callB call_abs (by rfl) T.b_abs (by decide +kernel) (pa_cons (pe_op op_sub (pe_ix (ix_K (K := K) rfl) (pv 4) (pv 7) (fun _ _ => rfl)) (pe_ix (ix_K (K := K) rfl) (pv 4) (pv 6) (fun _ _ => rfl))) pa_nil)) (pv 1) (nomark _)) (pss_one (ps_expr (pe_bm PySem.F.plainAttrs_list PySem.F.slot_list_append PySem.F.type_list_append mt_append (pv 5) (pa_cons (pe_tup (pa_cons pe_str (pa_cons (pv 6) (pa_cons (pv 7) pa_nil)))) pa_nil)))) pss_nil)))))
 (pss_one (ps_ret (pv 5))))), ?_⟩
  exact (imp_seq (imp_many2 (imp_avP (imp_call (F := F_rises) (imp_cons (imp_v 0) (imp_cons (imp_v 2) (imp_cons (imp_v 3) imp_nil)))) (imp_avF (imp_dispL imp_nil) imp_avNil)))
 (imp_seq (imp_for (imp_r1 (imp_cons (imp_v 0) imp_nil)) (imp_gN 6)
 (imp_then [6] (imp_for (imp_r3 (imp_cons (imp_op d_add (imp_v 6) (imp_v 2)) (imp_cons (imp_v 0) (imp_cons (imp_v 2) imp_nil)))) (imp_gN 7)
 (imp_then [7] (imp_if (imp_test (imp_op d_gt (imp_cb d_abs (imp_cons (imp_op d_sub (imp_op d_ix (imp_v 4) (imp_v 7)) (imp_op d_ix (imp_v 4) (imp_v 6))) imp_nil)) (imp_v 1)))
 (imp_app (i := 5) (imp_tup (imp_cons imp_str (imp_cons (imp_v 6) (imp_cons (imp_v 7) imp_nil)))))
 imp_next)))))
 (imp_frz 5 (imp_ret (imp_v 5)))))
theorem ok_bar (T : TX K mg) : FnOk P w K mg base CX0 4 T.f_bar T.d_bar ["places", "cap", "frame", "counts"] (spP K F_bar) := by
  refine okP (k := 3) (ps := ["places", "cap", "frame", "counts"]) (n := 4) T.F_bar sc_bar rfl fun cdv A outer s H E hr => ⟨_, (pss_cons (ps_if (pt_cmpR op_notN (pe_call (ok_tight T) (hr.mono (by decide)) (by rfl) T.g_tight T.F_tight.kp (b_tight T) .nil pass0 (pa_cons (pv 0) (pa_cons (pv 1) (pa_cons (pv 2) (pa_cons (pv 3) pa_nil))))) pe_non (nomark _)) (pss_one (ps_ret pe_non)) pss_nil)
 (pss_cons (ps_set (i := 4) sc_bar.nd rfl (by first | exact Or.inl rfl | exact Or.inr rfl) (pe_call (ok_thread_bars T) (hr.mono (by decide)) (by rfl) T.g_thread_bars T.F_thread_bars.kp (b_thread_bars T) .nil pass0 (pa_cons (pv 0) (pa_cons (pv 1) (pa_cons (pv 2) (pa_cons (pv 3) pa_nil))))))
 (pss_cons (ps_if (pt_cmpR (op_neK (K := K) rfl hr.units) (pv 4) (pe_lst pa_nil) (nomark _)) (pss_one (ps_ret (pe_ix (ix_K (K := K) rfl) (pv 4) pe_int (fun _ _ => rfl)))) pss_nil)
 (pss_cons (ps_set (i := 5) sc_bar.nd rfl (by first | exact Or.inl rfl | exact Or.inr rfl) (pe_call (ok_ranges T) (hr.mono (by decide)) (by rfl) T.g_ranges T.F_ranges.kp (b_ranges T) .nil pass0 (pa_cons (pv 0) (pa_cons (pv 1) (pa_cons (pv 2) (pa_cons (pv 3) pa_nil))))))
 (pss_cons (ps_set (i := 6) sc_bar.nd rfl (by first | exact Or.inl rfl | exact Or.inr rfl) (pe_callB (cr_sumA (K := K) rfl rfl) (by rfl) T.b_sum (by decide +kernel) (pa_cons (pe_lc (own := [("one", 7)]) (by rfl) sc_bar.nd (pi_listK (K := K) rfl (pv 5)) (blkOk_by (own := [("one", 7)]) (N := N_bar) (sc := defScope s_bar) (by decide +kernel)) (fun _ _ _ _ _ => (pg_name (i := 7) sc_bar.nd rfl (by first | exact Or.inl rfl | exact Or.inr rfl))) (fun _ _ _ _ _ => pts_nil) (fun _ _ _ _ _ => (pe_ix (ix_K (K := K) rfl) (pv 7) pe_int (fun _ _ => rfl)))) pa_nil)))
 (pss_one (ps_ret (pe_ifExp (pt_cmpR op_gt (pe_ix (ix_K (K := K) rfl) (pv 3) pe_int (fun _ _ => rfl)) (pv 6) (nomark _)) (pe_tup (pa_cons pe_str (pa_cons (pv 6) pa_nil))) (pe_tup (pa_cons pe_str (pa_cons (pe_callB (cr_sumA (K := K) rfl rfl) (by rfl) T.b_sum (by decide +kernel) (pa_cons (pe_lc (own := [("one", 7)]) (by rfl) sc_bar.nd (pi_listK (K := K) rfl (pv 5)) (blkOk_by (own := [("one", 7)]) (N := N_bar) (sc := defScope s_bar) (by decide +kernel)) (fun _ _ _ _ _ => (pg_name (i := 7) sc_bar.nd rfl (by first | exact Or.inl rfl | exact Or.inr rfl))) (fun _ _ _ _ _ => pts_nil) (fun _ _ _ _ _ => (pe_ix (ix_K (K := K) rfl) (pv 7) pe_int (fun _ _ => rfl)))) pa_nil)) pa_nil))))))))))), ?_⟩
  exact (imp_seq (imp_if (imp_test (imp_op d_notN (imp_call (F := F_tight) (imp_cons (imp_v 0) (imp_cons (imp_v 1) (imp_cons (imp_v 2) (imp_cons (imp_v 3) imp_nil))))) imp_non))
 (imp_ret imp_non)
 imp_next)
 (imp_seq (imp_asg (imp_call (F := F_thread_bars) (imp_cons (imp_v 0) (imp_cons (imp_v 1) (imp_cons (imp_v 2) (imp_cons (imp_v 3) imp_nil))))) (imp_gN 4))
 (imp_seq (imp_if (imp_test (imp_op d_ne (imp_v 4) (imp_lst imp_nil)))
 (imp_ret (imp_op d_ix (imp_v 4) imp_int))
 imp_next)
 (imp_seq (imp_asg (imp_call (F := F_ranges) (imp_cons (imp_v 0) (imp_cons (imp_v 1) (imp_cons (imp_v 2) (imp_cons (imp_v 3) imp_nil))))) (imp_gN 5))
 (imp_seq (imp_asg (imp_cb d_sumA (imp_cons (imp_ofL (imp_lc (vs := [7]) (imp_iL (imp_v 5)) (imp_gN 7) (only_N (by decide)) mono_N imp_yes (imp_op d_ix (imp_v 7) imp_int))) imp_nil)) (imp_gN 6))
 (imp_ret (imp_ifE (imp_test (imp_op d_gt (imp_op d_ix (imp_v 3) imp_int) (imp_v 6))) (imp_tup (imp_cons imp_str (imp_cons (imp_v 6) imp_nil))) (imp_tup (imp_cons imp_str (imp_cons (imp_cb d_sumA (imp_cons (imp_ofL (imp_lc (vs := [7]) (imp_iL (imp_v 5)) (imp_gN 7) (only_N (by decide)) mono_N imp_yes (imp_op d_ix (imp_v 7) imp_int))) imp_nil)) imp_nil))))))))))
theorem ok_is_bar (T : TX K mg) : FnOk P w K mg base CX0 5 T.f_is_bar T.d_is_bar ["places", "cap", "frame", "counts", "thing"] (spP K F_is_bar) := by
  refine okP (k := 4) (ps := ["places", "cap", "frame", "counts", "thing"]) (n := 2) T.F_is_bar sc_is_bar rfl fun cdv A outer s H E hr => ⟨_, (pss_cons (ps_if (PW.pt (pw_or (pt_not (pt_val (pe_callB (call_isiK (K := K) rfl) (by rfl) T.b_isinstance (by decide +kernel) (pa_cons (pv 4) (pa_cons (pe_bltn (v := .ty "tuple") (by rfl) T.b_tuple (by decide +kernel) rfl) pa_nil))))) (pw_or (pt_cmpR (op_notInK (K := K) rfl (room65 hr)) (pe_callB (call_lenK (K := K) rfl) (by rfl) T.b_len (by decide +kernel) (pa_cons (pv 4) pa_nil)) (pe_tup (pa_cons pe_int (pa_cons pe_int pa_nil))) (by rfl)) (pw_or1 (pt_not (pt_val (pe_callB (call_isiK (K := K) rfl) (by rfl) T.b_isinstance (by decide +kernel) (pa_cons (pe_ix (ix_K (K := K) rfl) (pv 4) pe_int (fun _ _ => rfl)) (pa_cons (pe_bltn (v := .ty "str") (by rfl) T.b_str (by decide +kernel) rfl) pa_nil))))))))) (pss_one (ps_ret pe_bl)) pss_nil)
 (pss_cons (ps_if (pt_not (pt_val (pe_callB (cr_allK (K := K) rfl rfl) (by rfl) T.b_all (by decide +kernel) (pa_cons (pe_lc (own := [("one", 6)]) (by rfl) sc_is_bar.nd (pi_tupleK (K := K) rfl (pe_slice (sl_K (K := K) rfl) (pv 4) (po_some pe_int) po_none)) (blkOk_by (own := [("one", 6)]) (N := N_is_bar) (sc := defScope s_is_bar) (by decide +kernel)) (fun _ _ _ _ _ => (pg_name (i := 6) sc_is_bar.nd rfl (by first | exact Or.inl rfl | exact Or.inr rfl))) (fun _ _ _ _ _ => pts_nil) (fun _ _ _ _ _ => (pe_call (ok_is_between T) (hr.mono (by decide)) (by rfl) T.g_is_between T.F_is_between.kp (b_is_between T) .nil pass0 (pa_cons (pv 6) (pa_cons (pe_un un_neg (pe_op op_pow pe_int pe_int)) (pa_cons (pe_op op_pow pe_int pe_int) pa_nil)))))) pa_nil)))) (pss_one (ps_ret pe_bl)) pss_nil)
 (pss_cons (ps_set (i := 5) sc_is_bar.nd rfl (by first | exact Or.inl rfl | exact Or.inr rfl) (pe_call (ok_thread_bars T) (hr.mono (by decide)) (by rfl) T.g_thread_bars T.F_thread_bars.kp (b_thread_bars T) .nil pass0 (pa_cons (pv 0) (pa_cons (pv 1) (pa_cons (pv 2) (pa_cons (pv 3) pa_nil))))))
 (pss_cons (ps_if (pt_cmpR (op_neK (K := K) rfl hr.units) (pv 5) (pe_lst pa_nil) (nomark _)) (pss_one (ps_ret (pe_cmpR (op_inK (K := K) rfl (room65 hr)) (pv 4) (pv 5) (by rfl)))) pss_nil)
 (pss_one (ps_ret (pe_cmpR (op_eqK (K := K) rfl hr.units) (pv 4) (pe_call (ok_bar T) (hr.mono (by decide)) (by rfl) T.g_bar T.F_bar.kp (b_bar T) .nil pass0 (pa_cons (pv 0) (pa_cons (pv 1) (pa_cons (pv 2) (pa_cons (pv 3) pa_nil))))) (nomark _)))))))), ?_⟩
  exact (imp_seq (imp_if (imp_or (imp_not (imp_tB (imp_isi (k := .tuple) (imp_v 4)))) (imp_or (imp_test (imp_op d_notIn (imp_cb d_len (imp_cons (imp_v 4) imp_nil)) (imp_tup (imp_cons imp_int (imp_cons imp_int imp_nil))))) (imp_not (imp_tB (imp_isi (k := .str) (imp_op d_ix (imp_v 4) imp_int))))))
 (imp_ret imp_bl)
 imp_next)
 (imp_seq (imp_if (imp_not (imp_tB (imp_cb d_all (imp_cons (imp_ofL (imp_lc (vs := [6]) (imp_iT (imp_sl d_sl (imp_v 4) (imp_p imp_int) imp_noP)) (imp_gN 6) (only_N (by decide)) mono_N imp_yes (imp_call (F := F_is_between) (imp_cons (imp_v 6) (imp_cons (imp_un d_neg (imp_op d_pow imp_int imp_int)) (imp_cons (imp_op d_pow imp_int imp_int) imp_nil)))))) imp_nil))))
 (imp_ret imp_bl)
 imp_next)
 (imp_seq (imp_asg (imp_call (F := F_thread_bars) (imp_cons (imp_v 0) (imp_cons (imp_v 1) (imp_cons (imp_v 2) (imp_cons (imp_v 3) imp_nil))))) (imp_gN 5))
 (imp_seq (imp_if (imp_test (imp_op d_ne (imp_v 5) (imp_lst imp_nil)))
 (imp_ret (imp_op d_in (imp_v 4) (imp_v 5)))
 imp_next)
 (imp_ret (imp_op d_eq (imp_v 4) (imp_call (F := F_bar) (imp_cons (imp_v 0) (imp_cons (imp_v 1) (imp_cons (imp_v 2) (imp_cons (imp_v 3) imp_nil)))))))))))
theorem ok_open_threads (T : TX K mg) : FnOk P w K mg base CX0 4 T.f_open_threads T.d_open_threads ["places", "cap", "frame", "counts"] (spP K F_open_threads) := by
  refine okP (k := 3) (ps := ["places", "cap", "frame", "counts"]) (n := 3) T.F_open_threads sc_open_threads rfl fun cdv A outer s H E hr => ⟨_, (pss_cons (ps_set (i := 4) sc_open_threads.nd rfl (by first | exact Or.inl rfl | exact Or.inr rfl) (pe_call (ok_tight T) (hr.mono (by decide)) (by rfl) T.g_tight T.F_tight.kp (b_tight T) .nil pass0 (pa_cons (pv 0) (pa_cons (pv 1) (pa_cons (pv 2) (pa_cons (pv 3) pa_nil))))))
 (pss_one (ps_ret (pe_ifExp (pt_cmpR op_isN (pv 4) pe_non (nomark _)) pe_non (pe_lc (own := [("thread", 5), ("one", 6)]) (by rfl) sc_open_threads.nd (pi_enumK (by rfl) T.b_enumerate (pa_cons (pv 4) pa_nil)) (blkOk_by (own := [("thread", 5), ("one", 6)]) (N := N_open_threads) (sc := defScope s_open_threads) (by decide +kernel)) (fun _ _ _ _ _ => (pg_tupK (K := K) (n := 2) rfl (by rfl) (pgs_cons (pg_name (i := 5) sc_open_threads.nd rfl (by first | exact Or.inl rfl | exact Or.inr rfl)) (pgs_cons (pg_name (i := 6) sc_open_threads.nd rfl (by first | exact Or.inl rfl | exact Or.inr rfl)) pgs_nil)))) (fun _ _ _ _ _ => (pts_one (pt_cmpR op_lt (pe_ix (ix_K (K := K) rfl) (pv 6) pe_int (fun _ _ => rfl)) (pe_ix (ix_K (K := K) rfl) (pv 6) pe_int (fun _ _ => rfl)) (nomark _)))) (fun _ _ _ _ _ => (pv 5))))))), ?_⟩
  exact (imp_seq (imp_asg (imp_call (F := F_tight) (imp_cons (imp_v 0) (imp_cons (imp_v 1) (imp_cons (imp_v 2) (imp_cons (imp_v 3) imp_nil))))) (imp_gN 4))
 (imp_ret (imp_ifE (imp_test (imp_op d_isN (imp_v 4) imp_non)) imp_non (imp_ofL (imp_lc (vs := [5, 6]) (imp_enum (imp_v 4)) (imp_gTup (imp_gCons (imp_gN 5) (imp_gCons (imp_gN 6) imp_gNil)) (qCons_len (qCons_len qNil_len))) (only_tup (only_cons (only_N (by decide)) (only_cons (only_N (by decide)) only_nil mono_N mono_nil) mono_N (mono_cons mono_N mono_nil))) (mono_tup (mono_cons mono_N (mono_cons mono_N mono_nil))) (imp_test (imp_op d_lt (imp_op d_ix (imp_v 6) imp_int) (imp_op d_ix (imp_v 6) imp_int))) (imp_v 5))))))
theorem ok_looks (T : TX K mg) : FnOk P w K mg base CX0 5 T.f_looks T.d_looks ["places", "cap", "frame", "counts"] (spP K F_looks) := by
  refine okP (k := 4) (ps := ["places", "cap", "frame", "counts"]) (n := 1) T.F_looks sc_looks rfl fun cdv A outer s H E hr => ⟨_, (pss_cons (ps_set (i := 4) sc_looks.nd rfl (by first | exact Or.inl rfl | exact Or.inr rfl) (pe_call (ok_open_threads T) (hr.mono (by decide)) (by rfl) T.g_open_threads T.F_open_threads.kp (b_open_threads T) .nil pass0 (pa_cons (pv 0) (pa_cons (pv 1) (pa_cons (pv 2) (pa_cons (pv 3) pa_nil))))))
 (pss_one (ps_ret (pe_ifExp (pt_cmpR op_isN (pv 4) pe_non (nomark _)) pe_non (pe_callTy (call_tupleK (K := K) rfl) (by rfl) T.b_tuple (by decide +kernel) (pa_cons (pe_slice (sl_K (K := K) rfl) (pv 4) po_none (po_some (pe_un un_neg pe_int))) pa_nil)))))), ?_⟩
  exact (imp_seq (imp_asg (imp_call (F := F_open_threads) (imp_cons (imp_v 0) (imp_cons (imp_v 1) (imp_cons (imp_v 2) (imp_cons (imp_v 3) imp_nil))))) (imp_gN 4))
 (imp_ret (imp_ifE (imp_test (imp_op d_isN (imp_v 4) imp_non)) imp_non (imp_cb d_tuple (imp_cons (imp_sl d_sl (imp_v 4) imp_noP (imp_p (imp_un d_neg imp_int))) imp_nil)))))
theorem ok_are_looks (T : TX K mg) : FnOk P w K mg base CX0 5 T.f_are_looks T.d_are_looks ["places", "cap", "frame", "counts", "thing"] (spP K F_are_looks) := by
  refine okP (k := 4) (ps := ["places", "cap", "frame", "counts", "thing"]) (n := 4) T.F_are_looks sc_are_looks rfl fun cdv A outer s H E hr => ⟨_, (pss_cons (ps_if (PW.pt (pw_or (pt_not (pt_val (pe_callB (call_isiK (K := K) rfl) (by rfl) T.b_isinstance (by decide +kernel) (pa_cons (pv 4) (pa_cons (pe_bltn (v := .ty "tuple") (by rfl) T.b_tuple (by decide +kernel) rfl) pa_nil))))) (pw_or1 (pt_not (pt_val (pe_callB (cr_allK (K := K) rfl rfl) (by rfl) T.b_all (by decide +kernel) (pa_cons (pe_lc (own := [("one", 6)]) (by rfl) sc_are_looks.nd (pi_tupleK (K := K) rfl (pv 4)) (blkOk_by (own := [("one", 6)]) (N := N_are_looks) (sc := defScope s_are_looks) (by decide +kernel)) (fun _ _ _ _ _ => (pg_name (i := 6) sc_are_looks.nd rfl (by first | exact Or.inl rfl | exact Or.inr rfl))) (fun _ _ _ _ _ => pts_nil) (fun _ _ _ _ _ => (pe_call (ok_is_between T) (hr.mono (by decide)) (by rfl) T.g_is_between T.F_is_between.kp (b_is_between T) .nil pass0 (pa_cons (pv 6) (pa_cons pe_int (pa_cons (pe_op op_sub (pv 0) pe_int) pa_nil)))))) pa_nil))))))) (pss_one (ps_ret pe_bl)) pss_nil)
 (pss_cons (ps_if (pt_not (pt_val (pe_callB (cr_allK (K := K) rfl rfl) (by rfl) T.b_all (by decide +kernel) (pa_cons (pe_lc (own := [("one", 6), ("other", 7)]) (by rfl) sc_are_looks.nd (pi_zipK (by rfl) T.b_zip (pa_cons (pv 4) (pa_cons (pe_slice (sl_K (K := K) rfl) (pv 4) (po_some pe_int) po_none) pa_nil))) (blkOk_by (own := [("one", 6), ("other", 7)]) (N := N_are_looks) (sc := defScope s_are_looks) (by decide +kernel)) (fun _ _ _ _ _ => (pg_tupK (K := K) (n := 2) rfl (by rfl) (pgs_cons (pg_name (i := 6) sc_are_looks.nd rfl (by first | exact Or.inl rfl | exact Or.inr rfl)) (pgs_cons (pg_name (i := 7) sc_are_looks.nd rfl (by first | exact Or.inl rfl | exact Or.inr rfl)) pgs_nil)))) (fun _ _ _ _ _ => pts_nil) (fun _ _ _ _ _ => (pe_cmpR op_lt (pv 6) (pv 7) (nomark _)))) pa_nil)))) (pss_one (ps_ret pe_bl)) pss_nil)
 (pss_cons (ps_set (i := 5) sc_are_looks.nd rfl (by first | exact Or.inl rfl | exact Or.inr rfl) (pe_call (ok_open_threads T) (hr.mono (by decide)) (by rfl) T.g_open_threads T.F_open_threads.kp (b_open_threads T) .nil pass0 (pa_cons (pv 0) (pa_cons (pv 1) (pa_cons (pv 2) (pa_cons (pv 3) pa_nil))))))
 (pss_cons (ps_if (pt_cmpR op_isN (pv 5) pe_non (nomark _)) (pss_one (ps_ret pe_bl)) pss_nil)
 (pss_one (ps_ret (pe_cmpR op_lt (pe_callB (call_lenK (K := K) rfl) (by rfl) T.b_len (by decide +kernel) (pa_cons (pe_lc (own := [("thread", 8)]) (by rfl) sc_are_looks.nd (pi_listK (K := K) rfl (pv 5)) (blkOk_by (own := [("thread", 8)]) (N := N_are_looks) (sc := defScope s_are_looks) (by decide +kernel)) (fun _ _ _ _ _ => (pg_name (i := 8) sc_are_looks.nd rfl (by first | exact Or.inl rfl | exact Or.inr rfl))) (fun _ _ _ _ _ => (pts_one (pt_not (pt_val (pe_callB (cr_anyK (K := K) rfl rfl) (by rfl) T.b_any (by decide +kernel) (pa_cons (pe_lc (own := [("one", 6)]) (by rfl) sc_are_looks.nd (pi_tupleK (K := K) rfl (pv 4)) (blkOk_by (own := [("one", 6)]) (N := N_are_looks) (sc := { kind := ScopeKind.function, names := [(Str.ofString ".0", NameKind.local), (Str.ofString "thread", NameKind.cell), (Str.ofString "any", NameKind.globalImplicit), (Str.ofString "frame", NameKind.cell), (Str.ofString "thing", NameKind.cell)], isGenerator := false, isCoroutine := false }) (by decide +kernel)) (fun _ _ _ _ _ => (pg_name (i := 6) sc_are_looks.nd rfl (by first | exact Or.inl rfl | exact Or.inr rfl))) (fun _ _ _ _ _ => pts_nil) (fun _ _ _ _ _ => (pe_cmpR (op_eqK (K := K) rfl hr.units) (pe_op op_mod (pv 6) (pv 2)) (pv 8) (nomark _)))) pa_nil)))))) (fun _ _ _ _ _ => (pv 8))) pa_nil)) pe_int (nomark _)))))))), ?_⟩
  exact (imp_seq (imp_if (imp_or (imp_not (imp_tB (imp_isi (k := .tuple) (imp_v 4)))) (imp_not (imp_tB (imp_cb d_all (imp_cons (imp_ofL (imp_lc (vs := [6]) (imp_iT (imp_v 4)) (imp_gN 6) (only_N (by decide)) mono_N imp_yes (imp_call (F := F_is_between) (imp_cons (imp_v 6) (imp_cons imp_int (imp_cons (imp_op d_sub (imp_v 0) imp_int) imp_nil)))))) imp_nil)))))
 (imp_ret imp_bl)
 imp_next)
 (imp_seq (imp_if (imp_not (imp_tB (imp_cb d_all (imp_cons (imp_ofL (imp_lc (vs := [6, 7]) (imp_zip (imp_v 4) (imp_sl d_sl (imp_v 4) (imp_p imp_int) imp_noP)) (imp_gTup (imp_gCons (imp_gN 6) (imp_gCons (imp_gN 7) imp_gNil)) (qCons_len (qCons_len qNil_len))) (only_tup (only_cons (only_N (by decide)) (only_cons (only_N (by decide)) only_nil mono_N mono_nil) mono_N (mono_cons mono_N mono_nil))) (mono_tup (mono_cons mono_N (mono_cons mono_N mono_nil))) imp_yes (imp_op d_lt (imp_v 6) (imp_v 7)))) imp_nil))))
 (imp_ret imp_bl)
 imp_next)
 (imp_seq (imp_asg (imp_call (F := F_open_threads) (imp_cons (imp_v 0) (imp_cons (imp_v 1) (imp_cons (imp_v 2) (imp_cons (imp_v 3) imp_nil))))) (imp_gN 5))
 (imp_seq (imp_if (imp_test (imp_op d_isN (imp_v 5) imp_non))
 (imp_ret imp_bl)
 imp_next)
 (imp_ret (imp_op d_lt (imp_cb d_len (imp_cons (imp_ofL (imp_lc (vs := [8]) (imp_iL (imp_v 5)) (imp_gN 8) (only_N (by decide)) mono_N (imp_not (imp_tB (imp_cb d_any (imp_cons (imp_ofL (imp_lc (vs := [6]) (imp_iT (imp_v 4)) (imp_gN 6) (only_N (by decide)) mono_N imp_yes (imp_op d_eq (imp_op d_mod (imp_v 6) (imp_v 2)) (imp_v 8)))) imp_nil)))) (imp_v 8))) imp_nil)) imp_int))))))
theorem ok_l_grown (T : TX K mg) : FnOk P w K mg base CX0 1 T.f_l_grown T.d_l_grown ["places", "frame", "counts", "firsts"] (spP K F_l_grown) := by
  refine okP (k := 0) (ps := ["places", "frame", "counts", "firsts"]) (n := 3) T.F_l_grown sc_l_grown rfl fun cdv A outer s H E hr => ⟨_, (pss_cons (ps_set (i := 4) sc_l_grown.nd rfl (by first | exact Or.inl rfl | exact Or.inr rfl) (pe_callTy (call_listK (K := K) rfl) (by rfl) T.b_list (by decide +kernel) (pa_cons (pv 3) pa_nil)))
 (pss_cons (ps_for PassesOwn.never rfl (pi_range2 (by rfl) T.b_range (pa_cons (pv 1) (pa_cons (pv 0) pa_nil))) (pg_name (i := 5) sc_l_grown.nd rfl (by first | exact Or.inl rfl | exact Or.inr rfl)) (pss_cons (ps_set (i := 6) sc_l_grown.nd rfl (by first | exact Or.inl rfl | exact Or.inr rfl) (pe_op op_sub (pv 5) (pv 1)))
 (pss_one (ps_expr (pe_bm PySem.F.plainAttrs_list PySem.F.slot_list_append PySem.F.type_list_append mt_append (pv 4) (pa_cons (pe_op op_sub (pe_op (op_addK (K := K) rfl) (pe_ix (ix_K (K := K) rfl) (pv 4) (pv 6) (fun _ _ => rfl)) (pe_ix (ix_K (K := K) rfl) (pv 2) (pe_op (op_addK (K := K) rfl) (pv 6) pe_int) (fun _ _ => rfl))) (pe_ix (ix_K (K := K) rfl) (pv 2) (pv 6) (fun _ _ => rfl))) pa_nil))))))
 (pss_one (ps_ret (pe_callTy (call_tupleK (K := K) rfl) (by rfl) T.b_tuple (by decide +kernel) (pa_cons (pv 4) pa_nil)))))), ?_⟩
  exact (imp_seq (imp_asgL 4 (imp_listOf (imp_cons (imp_v 3) imp_nil)))
 (imp_seq (imp_for (imp_r2 (imp_cons (imp_v 1) (imp_cons (imp_v 0) imp_nil))) (imp_gN 5)
 (imp_then [5, 6] (imp_seq (imp_asg (imp_op d_sub (imp_v 5) (imp_v 1)) (imp_gN 6))
 (imp_app (i := 4) (imp_op d_sub (imp_op d_add (imp_ixO (i := 4) (imp_v 6)) (imp_op d_ix (imp_v 2) (imp_op d_add (imp_v 6) imp_int))) (imp_op d_ix (imp_v 2) (imp_v 6)))))))
 (imp_frz 4 (imp_ret (imp_cb d_tuple (imp_cons (imp_v 4) imp_nil))))))
theorem ok_l_is_whole (T : TX K mg) : FnOk P w K mg base CX0 1 T.f_l_is_whole T.d_l_is_whole ["thing", "low", "high"] (spP K F_l_is_whole) := by
  refine okP (k := 0) (ps := ["thing", "low", "high"]) (n := 0) T.F_l_is_whole sc_l_is_whole rfl fun cdv A outer s H E hr => ⟨_, (pss_one (ps_ret (pe_and (pe_callB (call_isiK (K := K) rfl) (by rfl) T.b_isinstance (by decide +kernel) (pa_cons (pv 0) (pa_cons (pe_bltn (v := .ty "int") (by rfl) T.b_int (by decide +kernel) rfl) pa_nil))) (pe_and (pe_not (pe_callB (call_isiK (K := K) rfl) (by rfl) T.b_isinstance (by decide +kernel) (pa_cons (pv 0) (pa_cons (pe_bltn (v := .ty "bool") (by rfl) T.b_bool (by decide +kernel) rfl) pa_nil)))) (pe_one (pe_chain op_le op_le (pv 1) (pv 0) (pv 2))))))), ?_⟩
  exact (imp_ret (imp_andV (imp_isi (k := .int) (imp_v 0)) (imp_andV (imp_notV (imp_isi (k := .bool) (imp_v 0))) (imp_chain d_le d_le (imp_v 1) (imp_v 0) (imp_v 2)))))
theorem ok_l_draw (T : TX K mg) : FnOk P w K mg base CX0 1 T.f_l_draw T.d_l_draw ["draws", "many"] (spD K F_l_draw) := by
  refine okD (k := 0) (ps := ["many"]) (n := 2) T.F_l_draw sc_l_draw rfl fun cdv A outer s H E hr => ⟨_, (pss_cons (ps_if (pt_cmpR op_gt (pe_ix (ix_K (K := K) rfl) (pv 0) pe_int (fun _ _ => rfl)) pe_int (nomark _)) (pss_cons (ps_set (i := 2) sc_l_draw.nd rfl (by first | exact Or.inl rfl | exact Or.inr rfl) (pe_op op_mod (pe_ix (ix_K (K := K) rfl) (pv 0) pe_int (fun _ _ => rfl)) (pv 1)))
 (pss_cons (ps_asg (pe_op op_fdiv (pe_ix (ix_K (K := K) rfl) (pv 0) pe_int (fun _ _ => rfl)) (pv 1)) (pg_sub (pv 0) pe_int set_list))
 (pss_one (ps_ret (pv 2))))) pss_nil)
 (pss_cons (ps_set (i := 2) sc_l_draw.nd rfl (by first | exact Or.inl rfl | exact Or.inr rfl) pe_int)
 (pss_cons (ps_set (i := 3) sc_l_draw.nd rfl (by first | exact Or.inl rfl | exact Or.inr rfl) pe_int)
 (pss_cons (ps_while PassesOwn.never (pt_cmpR op_lt (pv 3) (pv 1) (nomark _)) (pss_cons (ps_asg (pe_op op_mod (pe_op (op_mulK (K := K) rfl) (pe_ix (ix_K (K := K) rfl) (pv 0) pe_int (fun _ _ => rfl)) pe_int) pe_int) (pg_sub (pv 0) pe_int set_list))
 (pss_cons (ps_set (i := 2) sc_l_draw.nd rfl (by first | exact Or.inl rfl | exact Or.inr rfl) (pe_op (op_addK (K := K) rfl) (pe_op (op_mulK (K := K) rfl) (pv 2) pe_int) (pe_op op_fdiv (pe_op op_mod (pe_op (op_mulK (K := K) rfl) (pe_ix (ix_K (K := K) rfl) (pv 0) pe_int (fun _ _ => rfl)) (pe_op (op_addK (K := K) rfl) (pe_op op_fdiv (pe_ix (ix_K (K := K) rfl) (pv 0) pe_int (fun _ _ => rfl)) pe_int) pe_int)) pe_int) pe_int)))
 (pss_one (ps_set (i := 3) sc_l_draw.nd rfl (by first | exact Or.inl rfl | exact Or.inr rfl) (pe_op (op_mulK (K := K) rfl) (pv 3) pe_int))))))
 (pss_one (ps_ret (pe_op op_mod (pv 2) (pv 1)))))))), ?_⟩
  exact (imp_seq (imp_if (imp_test (imp_op d_gt (imp_drIx (i := 0) imp_int) imp_int))
 (imp_seq (imp_asg (imp_op d_mod (imp_drIx (i := 0) imp_int) (imp_v 1)) (imp_gN 2))
 (imp_seq (imp_drSet (i := 0) imp_int (imp_op d_fdiv (imp_drIx (i := 0) imp_int) (imp_v 1)))
 (imp_ret (imp_v 2))))
 imp_next)
 (imp_seq (imp_asg imp_int (imp_gN 2))
 (imp_seq (imp_asg imp_int (imp_gN 3))
 (imp_seq (imp_while 3 (imp_test (imp_op d_lt (imp_v 3) (imp_v 1))) (imp_seq (imp_drSet (i := 0) imp_int (imp_op d_mod (imp_op d_mul (imp_drIx (i := 0) imp_int) imp_int) imp_int))
 (imp_seq (imp_asg (imp_op d_add (imp_op d_mul (imp_v 2) imp_int) (imp_op d_fdiv (imp_op d_mod (imp_op d_mul (imp_drIx (i := 0) imp_int) (imp_op d_add (imp_op d_fdiv (imp_drIx (i := 0) imp_int) imp_int) imp_int)) imp_int) imp_int)) (imp_gN 2))
 (imp_asg (imp_op d_mul (imp_v 3) imp_int) (imp_gN 3)))))
 (imp_ret (imp_op d_mod (imp_v 2) (imp_v 1)))))))
theorem ok_l_of (T : TX K mg) : FnOk P w K mg base CX0 2 T.f_l_of T.d_l_of ["draws", "some"] (spD K F_l_of) := by
  refine okD (k := 1) (ps := ["some"]) (n := 0) T.F_l_of sc_l_of rfl fun cdv A outer s H E hr => ⟨_, (pss_one (ps_ret (pe_ix (ix_K (K := K) rfl) (pv 1) (pe_call (ok_l_draw T) (hr.mono (by decide)) (by rfl) T.g_l_draw T.F_l_draw.kp (b_l_draw T) .nil pass0 (pa_cons (pv 0) (pa_cons (pe_callB (call_lenK (K := K) rfl) (by rfl) T.b_len (by decide +kernel) (pa_cons (pv 1) pa_nil)) pa_nil))) (fun _ _ => rfl)))), ?_⟩
  exact (imp_ret (imp_op d_ix (imp_v 1) (imp_callD (F := F_l_draw) (i := 0) (imp_cons (imp_cb d_len (imp_cons (imp_v 1) imp_nil)) imp_nil))))
theorem ok_l_small (T : TX K mg) : FnOk P w K mg base CX0 3 T.f_l_small T.d_l_small ["draws"] (spD K F_l_small) := by
  refine okD (k := 2) (ps := []) (n := 2) T.F_l_small sc_l_small rfl fun cdv A outer s H E hr => ⟨_, (pss_cons (ps_asg (pe_call (ok_l_of T) (hr.mono (by decide)) (by rfl) T.g_l_of T.F_l_of.kp (b_l_of T) .nil pass0 (pa_cons (pv 0) (pa_cons (pe_lst (pa_cons (pe_tup (pa_cons pe_int (pa_cons pe_int pa_nil))) (pa_cons (pe_tup (pa_cons pe_int (pa_cons pe_int pa_nil))) (pa_cons (pe_tup (pa_cons pe_int (pa_cons pe_int pa_nil))) (pa_cons (pe_tup (pa_cons pe_int (pa_cons pe_int pa_nil))) (pa_cons (pe_tup (pa_cons pe_int (pa_cons pe_int pa_nil))) (pa_cons (pe_tup (pa_cons pe_int (pa_cons pe_int pa_nil))) (pa_cons (pe_tup (pa_cons pe_int (pa_cons pe_int pa_nil))) (pa_cons (pe_tup (pa_cons pe_int (pa_cons pe_int pa_nil))) pa_nil))))))))) pa_nil))) (pg_tupK (K := K) (n := 2) rfl (by rfl) (pgs_cons (pg_name (i := 1) sc_l_small.nd rfl (by first | exact Or.inl rfl | exact Or.inr rfl)) (pgs_cons (pg_name (i := 2) sc_l_small.nd rfl (by first | exact Or.inl rfl | exact Or.inr rfl)) pgs_nil))))
 (pss_cons (ps_set (i := 2) sc_l_small.nd rfl (by first | exact Or.inl rfl | exact Or.inr rfl) (pe_op (op_addK (K := K) rfl) pe_int (pe_call (ok_l_draw T) (hr.mono (by decide)) (by rfl) T.g_l_draw T.F_l_draw.kp (b_l_draw T) .nil pass0 (pa_cons (pv 0) (pa_cons (pv 2) pa_nil)))))
 (pss_one (ps_ret (pe_tup (pa_cons (pe_op (op_addK (K := K) rfl) (pv 2) (pe_call (ok_l_draw T) (hr.mono (by decide)) (by rfl) T.g_l_draw T.F_l_draw.kp (b_l_draw T) .nil pass0 (pa_cons (pv 0) (pa_cons (pe_op op_sub pe_int (pv 2)) pa_nil)))) (pa_cons (pv 1) (pa_cons (pv 2) pa_nil)))))))), ?_⟩
  exact (imp_seq (imp_asg (imp_callD (F := F_l_of) (i := 0) (imp_cons (imp_lst (imp_cons (imp_tup (imp_cons imp_int (imp_cons imp_int imp_nil))) (imp_cons (imp_tup (imp_cons imp_int (imp_cons imp_int imp_nil))) (imp_cons (imp_tup (imp_cons imp_int (imp_cons imp_int imp_nil))) (imp_cons (imp_tup (imp_cons imp_int (imp_cons imp_int imp_nil))) (imp_cons (imp_tup (imp_cons imp_int (imp_cons imp_int imp_nil))) (imp_cons (imp_tup (imp_cons imp_int (imp_cons imp_int imp_nil))) (imp_cons (imp_tup (imp_cons imp_int (imp_cons imp_int imp_nil))) (imp_cons (imp_tup (imp_cons imp_int (imp_cons imp_int imp_nil))) imp_nil))))))))) imp_nil)) (imp_gTup (imp_gCons (imp_gN 1) (imp_gCons (imp_gN 2) imp_gNil)) (qCons_len (qCons_len qNil_len))))
 (imp_seq (imp_asg (imp_op d_add imp_int (imp_callD (F := F_l_draw) (i := 0) (imp_cons (imp_v 2) imp_nil))) (imp_gN 2))
 (imp_ret (imp_tup (imp_cons (imp_op d_add (imp_v 2) (imp_callD (F := F_l_draw) (i := 0) (imp_cons (imp_op d_sub imp_int (imp_v 2)) imp_nil))) (imp_cons (imp_v 1) (imp_cons (imp_v 2) imp_nil)))))))
theorem ok_l_counts (T : TX K mg) : FnOk P w K mg base CX0 1 T.f_l_counts T.d_l_counts ["row", "frame"] (spP K F_l_counts) := by
  refine okP (k := 0) (ps := ["row", "frame"]) (n := 4) T.F_l_counts sc_l_counts rfl fun cdv A outer s H E hr => ⟨_, (pss_cons (ps_set (i := 2) sc_l_counts.nd rfl (by first | exact Or.inl rfl | exact Or.inr rfl) (pe_lst pa_nil))
 (pss_cons (ps_for PassesOwn.never rfl (pi_range1 (by rfl) T.b_range (pa_cons (pe_op (op_addK (K := K) rfl) (pe_op op_sub (pe_callB (call_lenK (K := K) rfl) (by rfl) T.b_len (by decide +kernel) (pa_cons (pv 0) pa_nil)) (pv 1)) pe_int) pa_nil)) (pg_name (i := 3) sc_l_counts.nd rfl (by first | exact Or.inl rfl | exact Or.inr rfl)) (pss_cons (ps_set (i := 4) sc_l_counts.nd rfl (by first | exact Or.inl rfl | exact Or.inr rfl) pe_int)
 (pss_cons (ps_for PassesOwn.never rfl (pi_range2 (by rfl) T.b_range (pa_cons (pv 3) (pa_cons (pe_op (op_addK (K := K) rfl) (pv 3) (pv 1)) pa_nil))) (pg_name (i := 5) sc_l_counts.nd rfl (by first | exact Or.inl rfl | exact Or.inr rfl)) (pss_one (ps_set (i := 4) sc_l_counts.nd rfl (by first | exact Or.inl rfl | exact Or.inr rfl) (pe_op (op_addK (K := K) rfl) (pv 4) (pe_ix (ix_K (K := K) rfl) (pv 0) (pv 5) (fun _ _ => rfl))))))
 (pss_one (ps_expr (pe_bm PySem.F.plainAttrs_list PySem.F.slot_list_append PySem.F.type_list_append mt_append (pv 2) (pa_cons (pv 4) pa_nil)))))))
 (pss_one (ps_ret (pe_callTy (call_tupleK (K := K) rfl) (by rfl) T.b_tuple (by decide +kernel) (pa_cons (pv 2) pa_nil)))))), ?_⟩
  exact (imp_seq (imp_asgL 2 (imp_dispL imp_nil))
 (imp_seq (imp_for (imp_r1 (imp_cons (imp_op d_add (imp_op d_sub (imp_cb d_len (imp_cons (imp_v 0) imp_nil)) (imp_v 1)) imp_int) imp_nil)) (imp_gN 3)
 (imp_then [3, 4] (imp_seq (imp_asg imp_int (imp_gN 4))
 (imp_seq (imp_for (imp_r2 (imp_cons (imp_v 3) (imp_cons (imp_op d_add (imp_v 3) (imp_v 1)) imp_nil))) (imp_gN 5)
 (imp_then [5] (imp_asg (imp_op d_add (imp_v 4) (imp_op d_ix (imp_v 0) (imp_v 5))) (imp_gN 4))))
 (imp_app (i := 2) (imp_v 4))))))
 (imp_frz 2 (imp_ret (imp_cb d_tuple (imp_cons (imp_v 2) imp_nil))))))
theorem ok_l_row (T : TX K mg) : FnOk P w K mg base CX0 3 T.f_l_row T.d_l_row ["draws", "places", "cap"] (spD K F_l_row) := by
  refine okD (k := 2) (ps := ["places", "cap"]) (n := 4) T.F_l_row sc_l_row rfl fun cdv A outer s H E hr => ⟨_, (pss_cons (ps_set (i := 3) sc_l_row.nd rfl (by first | exact Or.inl rfl | exact Or.inr rfl) (pe_call (ok_l_of T) (hr.mono (by decide)) (by rfl) T.g_l_of T.F_l_of.kp (b_l_of T) .nil pass0 (pa_cons (pv 0) (pa_cons (pe_lst (pa_cons pe_int (pa_cons (pv 2) (pa_cons (pv 2) pa_nil)))) pa_nil))))
 (pss_cons (ps_setLc (i := 4) (own := [("place", 5)]) (by rfl) sc_l_row.nd rfl rfl (sw_true rfl rfl rfl (by decide +kernel)) (pi_range1 (by rfl) T.b_range (pa_cons (pv 1) pa_nil)) (blkOk_by (own := [("place", 5)]) (N := N_l_row) (sc := defScope s_l_row) (by decide +kernel)) (fun _ _ _ _ _ => (pg_name (i := 5) sc_l_row.nd rfl (by first | exact Or.inl rfl | exact Or.inr rfl))) (fun _ _ _ _ _ => pts_nil) (fun _ _ _ _ _ => (pe_call (ok_l_draw T) (hr.mono (by decide)) (by rfl) T.g_l_draw T.F_l_draw.kp (b_l_draw T) .nil pass0 (pa_cons (pv 0) (pa_cons (pe_op (op_addK (K := K) rfl) (pv 3) pe_int) pa_nil)))))
 (pss_cons (ps_if (pt_cmpR (op_eqK (K := K) rfl hr.units) (pe_call (ok_l_draw T) (hr.mono (by decide)) (by rfl) T.g_l_draw T.F_l_draw.kp (b_l_draw T) .nil pass0 (pa_cons (pv 0) (pa_cons pe_int pa_nil))) pe_int (nomark _)) (pss_one (ps_setLc (i := 4) (own := [("one", 6)]) (by rfl) sc_l_row.nd rfl rfl (sw_true rfl rfl rfl (by decide +kernel)) (pi_listK (K := K) rfl (pv 4)) (blkOk_by (own := [("one", 6)]) (N := N_l_row) (sc := defScope s_l_row) (by decide +kernel)) (fun _ _ _ _ _ => (pg_name (i := 6) sc_l_row.nd rfl (by first | exact Or.inl rfl | exact Or.inr rfl))) (fun _ _ _ _ _ => pts_nil) (fun _ _ _ _ _ => (pe_op op_sub (pv 2) (pv 6))))) pss_nil)
 (pss_one (ps_ret (pe_callTy (call_tupleK (K := K) rfl) (by rfl) T.b_tuple (by decide +kernel) (pa_cons (pv 4) pa_nil))))))), ?_⟩
  exact (imp_seq (imp_asg (imp_callD (F := F_l_of) (i := 0) (imp_cons (imp_lst (imp_cons imp_int (imp_cons (imp_v 2) (imp_cons (imp_v 2) imp_nil)))) imp_nil)) (imp_gN 3))
 (imp_seq (imp_asg (imp_ofL (imp_lc (vs := [5]) (imp_r1 (imp_cons (imp_v 1) imp_nil)) (imp_gN 5) (only_N (by decide)) mono_N imp_yes (imp_callD (F := F_l_draw) (i := 0) (imp_cons (imp_op d_add (imp_v 3) imp_int) imp_nil)))) (imp_gN 4))
 (imp_seq (imp_if (imp_test (imp_op d_eq (imp_callD (F := F_l_draw) (i := 0) (imp_cons imp_int imp_nil)) imp_int))
 (imp_asg (imp_ofL (imp_lc (vs := [6]) (imp_iL (imp_v 4)) (imp_gN 6) (only_N (by decide)) mono_N imp_yes (imp_op d_sub (imp_v 2) (imp_v 6)))) (imp_gN 4))
 imp_next)
 (imp_ret (imp_cb d_tuple (imp_cons (imp_v 4) imp_nil))))))
theorem ok_l_told_counts (T : TX K mg) : FnOk P w K mg base CX0 4 T.f_l_told_counts T.d_l_told_counts ["draws", "places", "cap", "frame"] (spD K F_l_told_counts) := by
  refine okD (k := 3) (ps := ["places", "cap", "frame"]) (n := 3) T.F_l_told_counts sc_l_told_counts rfl fun cdv A outer s H E hr => ⟨_, (pss_cons (ps_set (i := 4) sc_l_told_counts.nd rfl (by first | exact Or.inl rfl | exact Or.inr rfl) (pe_callTy (call_listK (K := K) rfl) (by rfl) T.b_list (by decide +kernel) (pa_cons (pe_call (ok_l_counts T) (hr.mono (by decide)) (by rfl) T.g_l_counts T.F_l_counts.kp (b_l_counts T) .nil pass0 (pa_cons (pe_call (ok_l_row T) (hr.mono (by decide)) (by rfl) T.g_l_row T.F_l_row.kp (b_l_row T) .nil pass0 (pa_cons (pv 0) (pa_cons (pv 1) (pa_cons (pv 2) pa_nil)))) (pa_cons (pv 3) pa_nil))) pa_nil)))
 (pss_cons (ps_for PassesOwn.never rfl (pi_range1 (by rfl) T.b_range (pa_cons (pe_ix (ix_K (K := K) rfl) (pe_lst (pa_cons pe_int (pa_cons pe_int (pa_cons pe_int (pa_cons pe_int (pa_cons pe_int pa_nil)))))) (pe_call (ok_l_draw T) (hr.mono (by decide)) (by rfl) T.g_l_draw T.F_l_draw.kp (b_l_draw T) .nil pass0 (pa_cons (pv 0) (pa_cons pe_int pa_nil))) (fun _ _ => rfl)) pa_nil)) (pg_name (i := 5) sc_l_told_counts.nd rfl (by first | exact Or.inl rfl | exact Or.inr rfl)) (pss_cons (ps_set (i := 6) sc_l_told_counts.nd rfl (by first | exact Or.inl rfl | exact Or.inr rfl) (pe_call (ok_l_draw T) (hr.mono (by decide)) (by rfl) T.g_l_draw T.F_l_draw.kp (b_l_draw T) .nil pass0 (pa_cons (pv 0) (pa_cons (pe_callB (call_lenK (K := K) rfl) (by rfl) T.b_len (by decide +kernel) (pa_cons (pv 4) pa_nil)) pa_nil))))
 (pss_one (ps_asg (pe_call (ok_l_of T) (hr.mono (by decide)) (by rfl) T.g_l_of T.F_l_of.kp (b_l_of T) .nil pass0 (pa_cons (pv 0) (pa_cons (pe_lst (pa_cons (pe_call (ok_l_draw T) (hr.mono (by decide)) (by rfl) T.g_l_draw T.F_l_draw.kp (b_l_draw T) .nil pass0 (pa_cons (pv 0) (pa_cons (pe_op (op_addK (K := K) rfl) (pe_op (op_mulK (K := K) rfl) (pv 3) (pv 2)) pe_int) pa_nil))) (pa_cons (pe_callB (cr_minS (K := K) rfl rfl) (by rfl) T.b_min (by decide +kernel) (pa_cons (pe_op (op_mulK (K := K) rfl) (pv 3) (pv 2)) (pa_cons (pe_op (op_addK (K := K) rfl) (pe_ix (ix_K (K := K) rfl) (pv 4) (pv 6) (fun _ _ => rfl)) pe_int) pa_nil))) (pa_cons (pe_callB (cr_maxS (K := K) rfl rfl) (by rfl) T.b_max (by decide +kernel) (pa_cons pe_int (pa_cons (pe_op op_sub (pe_ix (ix_K (K := K) rfl) (pv 4) (pv 6) (fun _ _ => rfl)) pe_int) pa_nil))) pa_nil)))) pa_nil))) (pg_sub (pv 4) (pv 6) set_list)))))
 (pss_one (ps_ret (pe_callTy (call_tupleK (K := K) rfl) (by rfl) T.b_tuple (by decide +kernel) (pa_cons (pv 4) pa_nil)))))), ?_⟩
  exact (imp_seq (imp_asgL 4 (imp_listOf (imp_cons (imp_call (F := F_l_counts) (imp_cons (imp_callD (F := F_l_row) (i := 0) (imp_cons (imp_v 1) (imp_cons (imp_v 2) imp_nil))) (imp_cons (imp_v 3) imp_nil))) imp_nil)))
 (imp_seq (imp_for (imp_r1 (imp_cons (imp_op d_ix (imp_lst (imp_cons imp_int (imp_cons imp_int (imp_cons imp_int (imp_cons imp_int (imp_cons imp_int imp_nil)))))) (imp_callD (F := F_l_draw) (i := 0) (imp_cons imp_int imp_nil))) imp_nil)) (imp_gN 5)
 (imp_then [5, 6] (imp_seq (imp_asg (imp_callD (F := F_l_draw) (i := 0) (imp_cons (imp_fl 4 (imp_cb d_len (imp_cons (imp_v 4) imp_nil))) imp_nil)) (imp_gN 6))
 (imp_setI (i := 4) (imp_v 6) (imp_callD (F := F_l_of) (i := 0) (imp_cons (imp_lst (imp_cons (imp_callD (F := F_l_draw) (i := 0) (imp_cons (imp_op d_add (imp_op d_mul (imp_v 3) (imp_v 2)) imp_int) imp_nil)) (imp_cons (imp_cb d_minS (imp_cons (imp_op d_mul (imp_v 3) (imp_v 2)) (imp_cons (imp_op d_add (imp_ixO (i := 4) (imp_v 6)) imp_int) imp_nil))) (imp_cons (imp_cb d_maxS (imp_cons imp_int (imp_cons (imp_op d_sub (imp_ixO (i := 4) (imp_v 6)) imp_int) imp_nil))) imp_nil)))) imp_nil))))))
 (imp_frz 4 (imp_ret (imp_cb d_tuple (imp_cons (imp_v 4) imp_nil))))))
theorem ok_l_rows (T : TX K mg) : FnOk P w K mg base CX0 2 T.f_l_rows T.d_l_rows ["places", "cap", "frame", "counts"] (spP K F_l_rows) := by
  refine okP (k := 1) (ps := ["places", "cap", "frame", "counts"]) (n := 7) T.F_l_rows sc_l_rows rfl fun cdv A outer s H E hr => ⟨_, (pss_cons (ps_par (i := 4) (j := 5) (by rfl) sc_l_rows.nd rfl rfl (by decide) rfl rfl (pa_cons (pe_lst pa_nil) (pa_cons (pe_lst (pa_cons (pe_tup pa_nil) pa_nil)) pa_nil)) (by rfl))
 (pss_cons (ps_for PassesOwn.never rfl (pi_range1 (by rfl) T.b_range (pa_cons (pv 2) pa_nil)) (pg_name (i := 6) sc_l_rows.nd rfl (by first | exact Or.inl rfl | exact Or.inr rfl)) (pss_cons (ps_set (i := 7) sc_l_rows.nd rfl (by first | exact Or.inl rfl | exact Or.inr rfl) (pe_lst pa_nil))
 (pss_cons (ps_for PassesOwn.never rfl (pi_listK (K := K) rfl (pv 5)) (pg_name (i := 8) sc_l_rows.nd rfl (by first | exact Or.inl rfl | exact Or.inr rfl)) (pss_one (ps_set (i := 7) sc_l_rows.nd rfl (by first | exact Or.inl rfl | exact Or.inr rfl) (pe_op (op_addK (K := K) rfl) (pv 7) (pe_lc (own := [("number", 10)]) (by rfl) sc_l_rows.nd (pi_range1 (by rfl) T.b_range (pa_cons (pe_op (op_addK (K := K) rfl) (pv 1) pe_int) pa_nil)) (blkOk_by (own := [("number", 10)]) (N := N_l_rows) (sc := defScope s_l_rows) (by decide +kernel)) (fun _ _ _ _ _ => (pg_name (i := 10) sc_l_rows.nd rfl (by first | exact Or.inl rfl | exact Or.inr rfl))) (fun _ _ _ _ _ => pts_nil) (fun _ _ _ _ _ => (pe_op (op_addK (K := K) rfl) (pv 8) (pe_tup (pa_cons (pv 10) pa_nil)))))))))
 (pss_one (ps_set (i := 5) sc_l_rows.nd rfl (by first | exact Or.inl rfl | exact Or.inr rfl) (pv 7))))))
 (pss_cons (ps_for PassesOwn.never rfl (pi_listK (K := K) rfl (pv 5)) (pg_name (i := 8) sc_l_rows.nd rfl (by first | exact Or.inl rfl | exact Or.inr rfl)) (pss_one (ps_if (pt_cmpR (op_eqK (K := K) rfl hr.units) (pe_callB (cr_sumA (K := K) rfl rfl) (by rfl) T.b_sum (by decide +kernel) (pa_cons (pv 8) pa_nil)) (pe_ix (ix_K (K := K) rfl) (pv 3) pe_int (fun _ _ => rfl)) (nomark _)) (pss_cons (ps_set (i := 9) sc_l_rows.nd rfl (by first | exact Or.inl rfl | exact Or.inr rfl) (pe_call (ok_l_grown T) (hr.mono (by decide)) (by rfl) T.g_l_grown T.F_l_grown.kp (b_l_grown T) .nil pass0 (pa_cons (pv 0) (pa_cons (pv 2) (pa_cons (pv 3) (pa_cons (pv 8) pa_nil))))))
 (pss_one (ps_if (PW.pt (pw_and (pt_cmpR op_ge (pe_callB (cr_minS (K := K) rfl rfl) (by rfl) T.b_min (by decide +kernel) (pa_cons (pv 9) pa_nil)) pe_int (nomark _)) (pw_and1 (pt_cmpR op_le (pe_callB (cr_maxS (K := K) rfl rfl) (by rfl) T.b_max (by decide +kernel) (pa_cons (pv 9) pa_nil)) (pv 1) (nomark _))))) (pss_one (ps_expr (pe_bm PySem.F.plainAttrs_list PySem.F.slot_list_append PySem.F.type_list_append mt_append (pv 4) (pa_cons (pv 9) pa_nil)))) pss_nil))) pss_nil)))
 (pss_one (ps_ret (pv 4)))))), ?_⟩
  exact (imp_seq (imp_many2 (imp_avF (imp_dispL imp_nil) (imp_avP (imp_lst (imp_cons (imp_tup imp_nil) imp_nil)) imp_avNil)))
 (imp_seq (imp_for (imp_r1 (imp_cons (imp_v 2) imp_nil)) (imp_gN 6)
 (imp_then [6, 7] (imp_seq (imp_asg (imp_lst imp_nil) (imp_gN 7))
 (imp_seq (imp_for (imp_iL (imp_v 5)) (imp_gN 8)
 (imp_then [8] (imp_asg (imp_op d_add (imp_v 7) (imp_ofL (imp_lc (vs := [10]) (imp_r1 (imp_cons (imp_op d_add (imp_v 1) imp_int) imp_nil)) (imp_gN 10) (only_N (by decide)) mono_N imp_yes (imp_op d_add (imp_v 8) (imp_tup (imp_cons (imp_v 10) imp_nil)))))) (imp_gN 7))))
 (imp_asg (imp_v 7) (imp_gN 5))))))
 (imp_seq (imp_for (imp_iL (imp_v 5)) (imp_gN 8)
 (imp_then [8] (imp_if (imp_test (imp_op d_eq (imp_cb d_sumA (imp_cons (imp_v 8) imp_nil)) (imp_op d_ix (imp_v 3) imp_int)))
 (imp_then [9] (imp_seq (imp_asg (imp_call (F := F_l_grown) (imp_cons (imp_v 0) (imp_cons (imp_v 2) (imp_cons (imp_v 3) (imp_cons (imp_v 8) imp_nil))))) (imp_gN 9))
 (imp_if (imp_and (imp_test (imp_op d_ge (imp_cb d_minS (imp_cons (imp_v 9) imp_nil)) imp_int)) (imp_test (imp_op d_le (imp_cb d_maxS (imp_cons (imp_v 9) imp_nil)) (imp_v 1))))
 (imp_app (i := 4) (imp_v 9))
 imp_next)))
 imp_next)))
 (imp_frz 4 (imp_ret (imp_v 4))))))
theorem okn_l_thing (T : TX K mg) : ∀ n, FnOk P w K mg base CX0 (2 + n) T.f_l_thing T.d_l_thing ["draws", "deep"] (spD K (Fn_l_thing n))
  | 0 => okNone
  | n + 1 => by
    have ih := okn_l_thing T n
    refine okD (k := 2 + n) (ps := ["deep"]) (n := 4) T.F_l_thing sc_l_thing rfl fun cdv A outer s H E hr => ⟨_, (pss_cons (ps_set (i := 2) sc_l_thing.nd rfl (by first | exact Or.inl rfl | exact Or.inr rfl) (pe_call (ok_l_draw T) (hr.mono (by omega)) (by rfl) T.g_l_draw T.F_l_draw.kp (b_l_draw T) .nil pass0 (pa_cons (pv 0) (pa_cons pe_int pa_nil))))
 (pss_cons (ps_if (PW.pt (pw_or (pt_cmpR op_lt (pv 2) pe_int (nomark _)) (pw_or1 (pt_cmpR (op_eqK (K := K) rfl hr.units) (pv 1) pe_int (nomark _))))) (pss_cons (ps_set (i := 3) sc_l_thing.nd rfl (by first | exact Or.inl rfl | exact Or.inr rfl) (pe_lst (pa_cons pe_int (pa_cons pe_int (pa_cons (pe_un un_neg pe_int) (pa_cons pe_bl (pa_cons pe_bl (pa_cons pe_non (pa_cons pe_str (pa_cons pe_str (pa_cons pe_str (pa_cons pe_str (pa_cons (pe_op op_pow pe_int pe_int) (pa_cons pe_int (pa_cons (pe_tup (pa_cons pe_int (pa_cons pe_int pa_nil))) (pa_cons (pe_tup (pa_cons pe_int (pa_cons pe_int pa_nil))) (pa_cons (pe_tup (pa_cons pe_str (pa_cons pe_int pa_nil))) (pa_cons (pe_tup (pa_cons pe_str (pa_cons pe_int pa_nil))) pa_nil))))))))))))))))))
 (pss_one (ps_ret (pe_call (ok_l_of T) (hr.mono (by omega)) (by rfl) T.g_l_of T.F_l_of.kp (b_l_of T) .nil pass0 (pa_cons (pv 0) (pa_cons (pe_op (op_addK (K := K) rfl) (pv 3) (pe_lst (pa_cons (pe_tup pa_nil) (pa_cons (pe_lst pa_nil) (pa_cons (pe_tup (pa_cons pe_int pa_nil)) (pa_cons (pe_tup (pa_cons pe_str (pa_cons pe_int (pa_cons pe_int pa_nil)))) (pa_cons (pe_tup (pa_cons pe_int (pa_cons (pe_tup (pa_cons pe_int (pa_cons pe_int pa_nil))) pa_nil))) (pa_cons (pe_tup (pa_cons pe_bl pa_nil)) (pa_cons (pe_tup (pa_cons (pe_tup (pa_cons pe_int (pa_cons (pe_tup (pa_cons pe_int pa_nil)) pa_nil))) pa_nil)) pa_nil))))))))) pa_nil)))))) pss_nil)
 (pss_cons (ps_setLc (i := 4) (own := [("k", 5)]) (by rfl) sc_l_thing.nd rfl rfl (sw_true rfl rfl rfl (by decide +kernel)) (pi_range1 (by rfl) T.b_range (pa_cons (pe_call (ok_l_draw T) (hr.mono (by omega)) (by rfl) T.g_l_draw T.F_l_draw.kp (b_l_draw T) .nil pass0 (pa_cons (pv 0) (pa_cons pe_int pa_nil))) pa_nil)) (blkOk_by (own := [("k", 5)]) (N := N_l_thing) (sc := defScope s_l_thing) (by decide +kernel)) (fun _ _ _ _ _ => (pg_name (i := 5) sc_l_thing.nd rfl (by first | exact Or.inl rfl | exact Or.inr rfl))) (fun _ _ _ _ _ => pts_nil) (fun _ _ _ _ _ => (pe_call ih (hr.mono (by omega)) (by rfl) T.g_l_thing T.F_l_thing.kp (b_l_thing T) .nil pass0 (pa_cons (pv 0) (pa_cons (pe_op op_sub (pv 1) pe_int) pa_nil)))))
 (pss_one (ps_ret (pe_ix (ix_K (K := K) rfl) (pe_lst (pa_cons (pv 4) (pa_cons (pe_callTy (call_tupleK (K := K) rfl) (by rfl) T.b_tuple (by decide +kernel) (pa_cons (pv 4) pa_nil)) (pa_cons (pe_callTy (call_tupleK (K := K) rfl) (by rfl) T.b_tuple (by decide +kernel) (pa_cons (pv 4) pa_nil)) pa_nil)))) (pe_op op_sub (pv 2) pe_int) (fun _ _ => rfl))))))), ?_⟩
    exact (imp_seq (imp_asg (imp_callD (F := F_l_draw) (i := 0) (imp_cons imp_int imp_nil)) (imp_gN 2))
 (imp_seq (imp_if (imp_or (imp_test (imp_op d_lt (imp_v 2) imp_int)) (imp_test (imp_op d_eq (imp_v 1) imp_int)))
 (imp_seq (imp_asg (imp_lst (imp_cons imp_int (imp_cons imp_int (imp_cons (imp_un d_neg imp_int) (imp_cons imp_bl (imp_cons imp_bl (imp_cons imp_non (imp_cons imp_str (imp_cons imp_str (imp_cons imp_str (imp_cons imp_str (imp_cons (imp_op d_pow imp_int imp_int) (imp_cons imp_int (imp_cons (imp_tup (imp_cons imp_int (imp_cons imp_int imp_nil))) (imp_cons (imp_tup (imp_cons imp_int (imp_cons imp_int imp_nil))) (imp_cons (imp_tup (imp_cons imp_str (imp_cons imp_int imp_nil))) (imp_cons (imp_tup (imp_cons imp_str (imp_cons imp_int imp_nil))) imp_nil))))))))))))))))) (imp_gN 3))
 (imp_ret (imp_callD (F := F_l_of) (i := 0) (imp_cons (imp_op d_add (imp_v 3) (imp_lst (imp_cons (imp_tup imp_nil) (imp_cons (imp_lst imp_nil) (imp_cons (imp_tup (imp_cons imp_int imp_nil)) (imp_cons (imp_tup (imp_cons imp_str (imp_cons imp_int (imp_cons imp_int imp_nil)))) (imp_cons (imp_tup (imp_cons imp_int (imp_cons (imp_tup (imp_cons imp_int (imp_cons imp_int imp_nil))) imp_nil))) (imp_cons (imp_tup (imp_cons imp_bl imp_nil)) (imp_cons (imp_tup (imp_cons (imp_tup (imp_cons imp_int (imp_cons (imp_tup (imp_cons imp_int imp_nil)) imp_nil))) imp_nil)) imp_nil))))))))) imp_nil))))
 imp_next)
 (imp_seq (imp_asg (imp_ofL (imp_lc (vs := [5]) (imp_r1 (imp_cons (imp_callD (F := F_l_draw) (i := 0) (imp_cons imp_int imp_nil)) imp_nil)) (imp_gN 5) (only_N (by decide)) mono_N imp_yes (imp_callD (F := (Fn_l_thing n)) (i := 0) (imp_cons (imp_op d_sub (imp_v 1) imp_int) imp_nil)))) (imp_gN 4))
 (imp_ret (imp_op d_ix (imp_lst (imp_cons (imp_v 4) (imp_cons (imp_cb d_tuple (imp_cons (imp_v 4) imp_nil)) (imp_cons (imp_cb d_tuple (imp_cons (imp_v 4) imp_nil)) imp_nil)))) (imp_op d_sub (imp_v 2) imp_int))))))
theorem ok_l_thing (T : TX K mg) : FnOk P w K mg base CX0 6 T.f_l_thing T.d_l_thing ["draws", "deep"] (spD K F_l_thing) := okn_l_thing T 4
theorem okn_l_otherwise (T : TX K mg) : ∀ n, FnOk P w K mg base CX0 (6 + n) T.f_l_otherwise T.d_l_otherwise ["draws", "thing", "deep"] (spD K (Fn_l_otherwise n))
  | 0 => okNone
  | n + 1 => by
    have ih := okn_l_otherwise T n
    refine okD (k := 6 + n) (ps := ["thing", "deep"]) (n := 5) T.F_l_otherwise sc_l_otherwise rfl fun cdv A outer s H E hr => ⟨_, (pss_cons (ps_set (i := 3) sc_l_otherwise.nd rfl (by first | exact Or.inl rfl | exact Or.inr rfl) (pe_callTy (call_listK (K := K) rfl) (by rfl) T.b_list (by decide +kernel) (pa_cons (pv 1) pa_nil)))
 (pss_cons (ps_if (pt_cmpR (op_eqK (K := K) rfl hr.units) (pv 3) (pe_lst pa_nil) (nomark _)) (pss_one (ps_ret (pe_tup (pa_cons (pe_call (ok_l_thing T) (hr.mono (by omega)) (by rfl) T.g_l_thing T.F_l_thing.kp (b_l_thing T) .nil pass0 (pa_cons (pv 0) (pa_cons pe_int pa_nil))) pa_nil)))) pss_nil)
 (pss_cons (ps_set (i := 4) sc_l_otherwise.nd rfl (by first | exact Or.inl rfl | exact Or.inr rfl) (pe_call (ok_l_draw T) (hr.mono (by omega)) (by rfl) T.g_l_draw T.F_l_draw.kp (b_l_draw T) .nil pass0 (pa_cons (pv 0) (pa_cons (pe_callB (call_lenK (K := K) rfl) (by rfl) T.b_len (by decide +kernel) (pa_cons (pv 3) pa_nil)) pa_nil))))
 (pss_cons (ps_if (PW.pt (pw_and (pt_val (pe_callB (call_isiTK (K := K) rfl) (by rfl) T.b_isinstance (by decide +kernel) (pa_cons (pe_ix (ix_K (K := K) rfl) (pv 3) (pv 4) (fun _ _ => rfl)) (pa_cons (pe_tup (pa_cons (pe_bltn (v := .ty "tuple") (by rfl) T.b_tuple (by decide +kernel) rfl) (pa_cons (pe_bltn (v := .ty "list") (by rfl) T.b_list (by decide +kernel) rfl) pa_nil))) pa_nil)))) (pw_and (pt_cmpR op_gt (pv 2) pe_int (nomark _)) (pw_and1 (pt_cmpR op_gt (pe_call (ok_l_draw T) (hr.mono (by omega)) (by rfl) T.g_l_draw T.F_l_draw.kp (b_l_draw T) .nil pass0 (pa_cons (pv 0) (pa_cons pe_int pa_nil))) pe_int (nomark _)))))) (pss_cons (ps_asg (pe_call ih (hr.mono (by omega)) (by rfl) T.g_l_otherwise T.F_l_otherwise.kp (b_l_otherwise T) .nil pass0 (pa_cons (pv 0) (pa_cons (pe_ix (ix_K (K := K) rfl) (pv 3) (pv 4) (fun _ _ => rfl)) (pa_cons (pe_op op_sub (pv 2) pe_int) pa_nil)))) (pg_sub (pv 3) (pv 4) set_list))
 (pss_one (ps_ret (pe_ifExp (pt_val (pe_callB (call_isiK (K := K) rfl) (by rfl) T.b_isinstance (by decide +kernel) (pa_cons (pv 1) (pa_cons (pe_bltn (v := .ty "list") (by rfl) T.b_list (by decide +kernel) rfl) pa_nil)))) (pv 3) (pe_callTy (call_tupleK (K := K) rfl) (by rfl) T.b_tuple (by decide +kernel) (pa_cons (pv 3) pa_nil)))))) pss_nil)
 (pss_cons (ps_set (i := 5) sc_l_otherwise.nd rfl (by first | exact Or.inl rfl | exact Or.inr rfl) (pe_call (ok_l_draw T) (hr.mono (by omega)) (by rfl) T.g_l_draw T.F_l_draw.kp (b_l_draw T) .nil pass0 (pa_cons (pv 0) (pa_cons pe_int pa_nil))))
 (pss_cons (ps_if (pt_cmpR (op_eqK (K := K) rfl hr.units) (pv 5) pe_int (nomark _)) (pss_one (ps_expr (pe_bm PySem.F.plainAttrs_list PySem.F.slot_list_pop PySem.F.type_list_pop mt_popAt (pv 3) (pa_cons (pv 4) pa_nil)))) (pss_one (ps_if (pt_cmpR (op_eqK (K := K) rfl hr.units) (pv 5) pe_int (nomark _)) (pss_one (ps_expr (pe_bm PySem.F.plainAttrs_list PySem.F.slot_list_insert PySem.F.type_list_insert mt_insert (pv 3) (pa_cons (pv 4) (pa_cons (pe_ix (ix_K (K := K) rfl) (pv 3) (pv 4) (fun _ _ => rfl)) pa_nil))))) (pss_one (ps_if (pt_cmpR (op_eqK (K := K) rfl hr.units) (pv 5) pe_int (nomark _)) (pss_one (ps_asg (pe_revLK (K := K) rfl (pe_slice (sl_listK (K := K) rfl) (pv 3) (po_some (pv 4)) (po_some (pe_op (op_addK (K := K) rfl) (pv 4) pe_int)))) (pg_cut (pv 3) (po_some (pv 4)) (po_some (pe_op (op_addK (K := K) rfl) (pv 4) pe_int))))) (pss_one (ps_if (pt_cmpR (op_eqK (K := K) rfl hr.units) (pv 5) pe_int (nomark _)) (pss_one (ps_asg (pe_call (ok_l_thing T) (hr.mono (by omega)) (by rfl) T.g_l_thing T.F_l_thing.kp (b_l_thing T) .nil pass0 (pa_cons (pv 0) (pa_cons pe_int pa_nil))) (pg_sub (pv 3) (pv 4) set_list))) (pss_one (ps_if (PW.pt (pw_and (pt_cmpR (op_eqK (K := K) rfl hr.units) (pv 5) pe_int (nomark _)) (pw_and1 (pt_val (pe_callB (call_isiK (K := K) rfl) (by rfl) T.b_isinstance (by decide +kernel) (pa_cons (pe_ix (ix_K (K := K) rfl) (pv 3) (pv 4) (fun _ _ => rfl)) (pa_cons (pe_bltn (v := .ty "str") (by rfl) T.b_str (by decide +kernel) rfl) pa_nil))))))) (pss_cons (ps_set (i := 6) sc_l_otherwise.nd rfl (by first | exact Or.inl rfl | exact Or.inr rfl) (pe_ix (ix_K (K := K) rfl) (pv 3) (pv 4) (fun _ _ => rfl)))
 (pss_one (ps_asg (pe_call (ok_l_of T) (hr.mono (by omega)) (by rfl) T.g_l_of T.F_l_of.kp (b_l_of T) .nil pass0 (pa_cons (pv 0) (pa_cons (pe_lst (pa_cons (pe_op (op_addK (K := K) rfl) (pv 6) pe_str) (pa_cons (pe_slice sl_str (pv 6) (po_some pe_int) po_none) (pa_cons (pe_upper (pv 6)) (pa_cons pe_str (pa_cons pe_non (pa_cons pe_str (pa_cons pe_str pa_nil)))))))) pa_nil))) (pg_sub (pv 3) (pv 4) set_list)))) (pss_one (ps_if (PW.pt (pw_and (pt_cmpR op_lt (pv 5) pe_int (nomark _)) (pw_and1 (pt_val (pe_callB (call_isiK (K := K) rfl) (by rfl) T.b_isinstance (by decide +kernel) (pa_cons (pe_ix (ix_K (K := K) rfl) (pv 3) (pv 4) (fun _ _ => rfl)) (pa_cons (pe_bltn (v := .ty "int") (by rfl) T.b_int (by decide +kernel) rfl) pa_nil))))))) (pss_cons (ps_set (i := 7) sc_l_otherwise.nd rfl (by first | exact Or.inl rfl | exact Or.inr rfl) (pe_ix (ix_K (K := K) rfl) (pv 3) (pv 4) (fun _ _ => rfl)))
 (pss_one (ps_asg (pe_call (ok_l_of T) (hr.mono (by omega)) (by rfl) T.g_l_of T.F_l_of.kp (b_l_of T) .nil pass0 (pa_cons (pv 0) (pa_cons (pe_lst (pa_cons (pe_op op_addN (pv 7) pe_int) (pa_cons (pe_op op_subN (pv 7) pe_int) (pa_cons (pe_op op_subN pe_int (pv 7)) (pa_cons pe_bl (pa_cons pe_bl (pa_cons pe_non (pa_cons (pe_callB (cr_minS (K := K) rfl rfl) (by rfl) T.b_min (by decide +kernel) (pa_cons (pe_op op_mulN pe_int (pv 7)) (pa_cons (pe_op op_pow pe_int pe_int) pa_nil))) pa_nil)))))))) pa_nil))) (pg_sub (pv 3) (pv 4) set_list)))) (pss_one (ps_if (PW.pt (pw_and (pt_cmpR (op_eqK (K := K) rfl hr.units) (pv 5) pe_int (nomark _)) (pw_and1 (pt_val (pe_callB (call_isiK (K := K) rfl) (by rfl) T.b_isinstance (by decide +kernel) (pa_cons (pe_ix (ix_K (K := K) rfl) (pv 3) (pv 4) (fun _ _ => rfl)) (pa_cons (pe_bltn (v := .ty "tuple") (by rfl) T.b_tuple (by decide +kernel) rfl) pa_nil))))))) (pss_one (ps_asg (pe_callTy (call_listK (K := K) rfl) (by rfl) T.b_list (by decide +kernel) (pa_cons (pe_ix (ix_K (K := K) rfl) (pv 3) (pv 4) (fun _ _ => rfl)) pa_nil)) (pg_sub (pv 3) (pv 4) set_list))) (pss_one (ps_ret (pe_ifExp (pt_val (pe_callB (call_isiK (K := K) rfl) (by rfl) T.b_isinstance (by decide +kernel) (pa_cons (pv 1) (pa_cons (pe_bltn (v := .ty "list") (by rfl) T.b_list (by decide +kernel) rfl) pa_nil)))) (pe_callTy (call_tupleK (K := K) rfl) (by rfl) T.b_tuple (by decide +kernel) (pa_cons (pv 3) pa_nil)) (pv 3)))))))))))))))))
 (pss_one (ps_ret (pe_ifExp (pt_val (pe_callB (call_isiK (K := K) rfl) (by rfl) T.b_isinstance (by decide +kernel) (pa_cons (pv 1) (pa_cons (pe_bltn (v := .ty "list") (by rfl) T.b_list (by decide +kernel) rfl) pa_nil)))) (pv 3) (pe_callTy (call_tupleK (K := K) rfl) (by rfl) T.b_tuple (by decide +kernel) (pa_cons (pv 3) pa_nil))))))))))), ?_⟩
    exact (imp_seq (imp_asgL 3 (imp_listOf (imp_cons (imp_v 1) imp_nil)))
 (imp_seq (imp_if (imp_flT 3 (imp_test (imp_op d_eq (imp_v 3) (imp_lst imp_nil))))
 (imp_ret (imp_tup (imp_cons (imp_callD (F := F_l_thing) (i := 0) (imp_cons imp_int imp_nil)) imp_nil)))
 imp_next)
 (imp_seq (imp_asg (imp_callD (F := F_l_draw) (i := 0) (imp_cons (imp_fl 3 (imp_cb d_len (imp_cons (imp_v 3) imp_nil))) imp_nil)) (imp_gN 4))
 (imp_seq (imp_if (imp_and (imp_tB (imp_isi2 (k := .tuple) (l := .list) (imp_ixO (i := 3) (imp_v 4)))) (imp_and (imp_test (imp_op d_gt (imp_v 2) imp_int)) (imp_test (imp_op d_gt (imp_callD (F := F_l_draw) (i := 0) (imp_cons imp_int imp_nil)) imp_int))))
 (imp_seq (imp_setI (i := 3) (imp_v 4) (imp_callD (F := (Fn_l_otherwise n)) (i := 0) (imp_cons (imp_ixO (i := 3) (imp_v 4)) (imp_cons (imp_op d_sub (imp_v 2) imp_int) imp_nil))))
 (imp_frz 3 (imp_ret (imp_ifE (imp_tB (imp_isi (k := .list) (imp_v 1))) (imp_v 3) (imp_cb d_tuple (imp_cons (imp_v 3) imp_nil))))))
 imp_next)
 (imp_seq (imp_asg (imp_callD (F := F_l_draw) (i := 0) (imp_cons imp_int imp_nil)) (imp_gN 5))
 (imp_seq (imp_if (imp_test (imp_op d_eq (imp_v 5) imp_int))
 (imp_popAt (i := 3) (imp_v 4))
 (imp_if (imp_test (imp_op d_eq (imp_v 5) imp_int))
 (imp_insert (i := 3) (imp_v 4) (imp_ixO (i := 3) (imp_v 4)))
 (imp_if (imp_test (imp_op d_eq (imp_v 5) imp_int))
 (imp_setCut (i := 3) (imp_p (imp_v 4)) (imp_p (imp_op d_add (imp_v 4) imp_int)) (imp_revCut (i := 3) (imp_p (imp_v 4)) (imp_p (imp_op d_add (imp_v 4) imp_int))))
 (imp_if (imp_test (imp_op d_eq (imp_v 5) imp_int))
 (imp_setI (i := 3) (imp_v 4) (imp_callD (F := F_l_thing) (i := 0) (imp_cons imp_int imp_nil)))
 (imp_if (imp_and (imp_test (imp_op d_eq (imp_v 5) imp_int)) (imp_tB (imp_isi (k := .str) (imp_ixO (i := 3) (imp_v 4)))))
 (imp_then [6] (imp_seq (imp_asg (imp_ixO (i := 3) (imp_v 4)) (imp_gN 6))
 (imp_setI (i := 3) (imp_v 4) (imp_callD (F := F_l_of) (i := 0) (imp_cons (imp_lst (imp_cons (imp_op d_add (imp_v 6) imp_str) (imp_cons (imp_sl d_slS (imp_v 6) (imp_p imp_int) imp_noP) (imp_cons (imp_upper (imp_v 6)) (imp_cons imp_str (imp_cons imp_non (imp_cons imp_str (imp_cons imp_str imp_nil)))))))) imp_nil)))))
 (imp_if (imp_and (imp_test (imp_op d_lt (imp_v 5) imp_int)) (imp_tB (imp_isi (k := .int) (imp_ixO (i := 3) (imp_v 4)))))
 (imp_then [7] (imp_seq (imp_asg (imp_ixO (i := 3) (imp_v 4)) (imp_gN 7))
 (imp_setI (i := 3) (imp_v 4) (imp_callD (F := F_l_of) (i := 0) (imp_cons (imp_lst (imp_cons (imp_op d_addN (imp_v 7) imp_int) (imp_cons (imp_op d_subN (imp_v 7) imp_int) (imp_cons (imp_op d_subN imp_int (imp_v 7)) (imp_cons imp_bl (imp_cons imp_bl (imp_cons imp_non (imp_cons (imp_cb d_minS (imp_cons (imp_op d_mulN imp_int (imp_v 7)) (imp_cons (imp_op d_pow imp_int imp_int) imp_nil))) imp_nil)))))))) imp_nil)))))
 (imp_if (imp_and (imp_test (imp_op d_eq (imp_v 5) imp_int)) (imp_tB (imp_isi (k := .tuple) (imp_ixO (i := 3) (imp_v 4)))))
 (imp_setI (i := 3) (imp_v 4) (imp_ofL (imp_listOf (imp_cons (imp_ixO (i := 3) (imp_v 4)) imp_nil))))
 (imp_frz 3 (imp_ret (imp_ifE (imp_tB (imp_isi (k := .list) (imp_v 1))) (imp_cb d_tuple (imp_cons (imp_v 3) imp_nil)) (imp_v 3)))))))))))
 (imp_frz 3 (imp_ret (imp_ifE (imp_tB (imp_isi (k := .list) (imp_v 1))) (imp_v 3) (imp_cb d_tuple (imp_cons (imp_v 3) imp_nil)))))))))))
theorem ok_l_otherwise (T : TX K mg) : FnOk P w K mg base CX0 9 T.f_l_otherwise T.d_l_otherwise ["draws", "thing", "deep"] (spD K F_l_otherwise) := okn_l_otherwise T 3
theorem ok_l_truly (T : TX K mg) : FnOk P w K mg base CX0 1 T.f_l_truly T.d_l_truly ["found", "due"] (spP K F_l_truly) := by
  refine okP (k := 0) (ps := ["found", "due"]) (n := 0) T.F_l_truly sc_l_truly rfl fun cdv A outer s H E hr => ⟨_, (pss_one (ps_ret (pe_and (pe_callB (call_isiK (K := K) rfl) (by rfl) T.b_isinstance (by decide +kernel) (pa_cons (pv 0) (pa_cons (pe_bltn (v := .ty "bool") (by rfl) T.b_bool (by decide +kernel) rfl) pa_nil))) (pe_one (pe_cmpR (op_eqK (K := K) rfl hr.units) (pv 0) (pv 1) (nomark _)))))), ?_⟩
  exact (imp_ret (imp_andV (imp_isi (k := .bool) (imp_v 0)) (imp_op d_eq (imp_v 0) (imp_v 1))))
theorem ok_l_bars (T : TX K mg) : FnOk P w K mg base CX0 2 T.f_l_bars T.d_l_bars ["places", "cap", "frame", "counts", "rows"] (spP K F_l_bars) := by
  refine okP (k := 1) (ps := ["places", "cap", "frame", "counts", "rows"]) (n := 8) T.F_l_bars sc_l_bars rfl fun cdv A outer s H E hr => ⟨_, (pss_cons (ps_asg (pe_tup (pa_cons (pe_call (ok_l_grown T) (hr.mono (by decide)) (by rfl) T.g_l_grown T.F_l_grown.kp (b_l_grown T) .nil pass0 (pa_cons (pv 0) (pa_cons (pv 2) (pa_cons (pv 3) (pa_cons (pe_op (op_mulK (K := K) rfl) (pe_tup (pa_cons pe_int pa_nil)) (pv 2)) pa_nil))))) (pa_cons (pe_lst pa_nil) pa_nil))) (pg_tupK (K := K) (n := 2) rfl (by rfl) (pgs_cons (pg_name (i := 5) sc_l_bars.nd rfl (by first | exact Or.inl rfl | exact Or.inr rfl)) (pgs_cons (pg_name (i := 6) sc_l_bars.nd rfl (by first | exact Or.inl rfl | exact Or.inr rfl)) pgs_nil))))
 (pss_cons (ps_for PassesOwn.never rfl (pi_range1 (by rfl) T.b_range (pa_cons (pv 0) pa_nil)) (pg_name (i := 7) sc_l_bars.nd rfl (by first | exact Or.inl rfl | exact Or.inr rfl)) (pss_one (ps_for PassesOwn.never rfl (pi_range3 (by rfl) T.b_range (pa_cons (pe_op (op_addK (K := K) rfl) (pv 7) (pv 2)) (pa_cons (pv 0) (pa_cons (pv 2) pa_nil)))) (pg_name (i := 8) sc_l_bars.nd rfl (by first | exact Or.inl rfl | exact Or.inr rfl)) (pss_one (ps_if (pt_cmpR op_gt (pe_callB call_abs (by rfl) T.b_abs (by decide +kernel) (pa_cons (pe_op op_sub (pe_ix (ix_K (K := K) rfl) (pv 5) (pv 8) (fun _ _ => rfl)) (pe_ix (ix_K (K := K) rfl) (pv 5) (pv 7) (fun _ _ => rfl))) pa_nil)) (pv 1) (nomark _)) (pss_one (ps_expr (pe_bm PySem.F.plainAttrs_list PySem.F.slot_list_append PySem.F.type_list_append mt_append (pv 6) (pa_cons (pe_tup (pa_cons pe_str (pa_cons (pv 7) (pa_cons (pv 8) pa_nil)))) pa_nil)))) pss_nil)))))
 (pss_cons (ps_if (PW.pt (pw_and (pt_cmpR (op_eqK (K := K) rfl hr.units) (pv 6) (pe_lst pa_nil) (nomark _)) (pw_and1 (pt_cmpR (op_eqK (K := K) rfl hr.units) (pv 4) (pe_lst pa_nil) (nomark _))))) (pss_cons (ps_asg (pe_tup (pa_cons pe_int (pa_cons pe_int pa_nil))) (pg_tupK (K := K) (n := 2) rfl (by rfl) (pgs_cons (pg_name (i := 9) sc_l_bars.nd rfl (by first | exact Or.inl rfl | exact Or.inr rfl)) (pgs_cons (pg_name (i := 10) sc_l_bars.nd rfl (by first | exact Or.inl rfl | exact Or.inr rfl)) pgs_nil))))
 (pss_cons (ps_for PassesOwn.never rfl (pi_range1 (by rfl) T.b_range (pa_cons (pv 2) pa_nil)) (pg_name (i := 11) sc_l_bars.nd rfl (by first | exact Or.inl rfl | exact Or.inr rfl)) (pss_cons (ps_setLc (i := 12) (own := [("place", 7)]) (by rfl) sc_l_bars.nd rfl rfl (sw_true rfl rfl rfl (by decide +kernel)) (pi_range3 (by rfl) T.b_range (pa_cons (pv 11) (pa_cons (pv 0) (pa_cons (pv 2) pa_nil)))) (blkOk_by (own := [("place", 7)]) (N := N_l_bars) (sc := defScope s_l_bars) (by decide +kernel)) (fun _ _ _ _ _ => (pg_name (i := 7) sc_l_bars.nd rfl (by first | exact Or.inl rfl | exact Or.inr rfl))) (fun _ _ _ _ _ => pts_nil) (fun _ _ _ _ _ => (pe_ix (ix_K (K := K) rfl) (pv 5) (pv 7) (fun _ _ => rfl))))
 (pss_one (ps_par (i := 9) (j := 10) (by rfl) sc_l_bars.nd rfl rfl (by decide) rfl rfl (pa_cons (pe_op op_sub (pv 9) (pe_callB (cr_minS (K := K) rfl rfl) (by rfl) T.b_min (by decide +kernel) (pa_cons (pv 12) pa_nil))) (pa_cons (pe_op op_sub (pe_op (op_addK (K := K) rfl) (pv 10) (pv 1)) (pe_callB (cr_maxS (K := K) rfl rfl) (by rfl) T.b_max (by decide +kernel) (pa_cons (pv 12) pa_nil))) pa_nil)) (by rfl)))))
 (pss_one (ps_expr (pe_bm PySem.F.plainAttrs_list PySem.F.slot_list_append PySem.F.type_list_append mt_append (pv 6) (pa_cons (pe_ifExp (pt_cmpR op_gt (pe_ix (ix_K (K := K) rfl) (pv 3) pe_int (fun _ _ => rfl)) (pv 10) (nomark _)) (pe_tup (pa_cons pe_str (pa_cons (pv 10) pa_nil))) (pe_tup (pa_cons pe_str (pa_cons (pv 9) pa_nil)))) pa_nil)))))) pss_nil)
 (pss_one (ps_ret (pv 6)))))), ?_⟩
  exact (imp_seq (imp_manyT (is := [5, 6]) (imp_avP (imp_call (F := F_l_grown) (imp_cons (imp_v 0) (imp_cons (imp_v 2) (imp_cons (imp_v 3) (imp_cons (imp_op d_mul (imp_tup (imp_cons imp_int imp_nil)) (imp_v 2)) imp_nil))))) (imp_avF (imp_dispL imp_nil) imp_avNil)) (by decide))
 (imp_seq (imp_for (imp_r1 (imp_cons (imp_v 0) imp_nil)) (imp_gN 7)
 (imp_then [7] (imp_for (imp_r3 (imp_cons (imp_op d_add (imp_v 7) (imp_v 2)) (imp_cons (imp_v 0) (imp_cons (imp_v 2) imp_nil)))) (imp_gN 8)
 (imp_then [8] (imp_if (imp_test (imp_op d_gt (imp_cb d_abs (imp_cons (imp_op d_sub (imp_op d_ix (imp_v 5) (imp_v 8)) (imp_op d_ix (imp_v 5) (imp_v 7))) imp_nil)) (imp_v 1)))
 (imp_app (i := 6) (imp_tup (imp_cons imp_str (imp_cons (imp_v 7) (imp_cons (imp_v 8) imp_nil)))))
 imp_next)))))
 (imp_seq (imp_if (imp_and (imp_flT 6 (imp_test (imp_op d_eq (imp_v 6) (imp_lst imp_nil)))) (imp_test (imp_op d_eq (imp_v 4) (imp_lst imp_nil))))
 (imp_then [9, 10] (imp_seq (imp_manyT (is := [9, 10]) (imp_avP imp_int (imp_avP imp_int imp_avNil)) (by decide))
 (imp_seq (imp_for (imp_r1 (imp_cons (imp_v 2) imp_nil)) (imp_gN 11)
 (imp_then [11, 12] (imp_seq (imp_asg (imp_ofL (imp_lc (vs := [7]) (imp_r3 (imp_cons (imp_v 11) (imp_cons (imp_v 0) (imp_cons (imp_v 2) imp_nil)))) (imp_gN 7) (only_N (by decide)) mono_N imp_yes (imp_op d_ix (imp_v 5) (imp_v 7)))) (imp_gN 12))
 (imp_many2 (imp_avP (imp_op d_sub (imp_v 9) (imp_cb d_minS (imp_cons (imp_v 12) imp_nil))) (imp_avP (imp_op d_sub (imp_op d_add (imp_v 10) (imp_v 1)) (imp_cb d_maxS (imp_cons (imp_v 12) imp_nil))) imp_avNil))))))
 (imp_app (i := 6) (imp_ifE (imp_test (imp_op d_gt (imp_op d_ix (imp_v 3) imp_int) (imp_v 10))) (imp_tup (imp_cons imp_str (imp_cons (imp_v 10) imp_nil))) (imp_tup (imp_cons imp_str (imp_cons (imp_v 9) imp_nil))))))))
 imp_next)
 (imp_frz 6 (imp_ret (imp_v 6))))))
theorem ok_l_are_looks (T : TX K mg) : FnOk P w K mg base CX0 2 T.f_l_are_looks T.d_l_are_looks ["places", "rows", "thing"] (spP K F_l_are_looks) := by
  refine okP (k := 1) (ps := ["places", "rows", "thing"]) (n := 4) T.F_l_are_looks sc_l_are_looks rfl fun cdv A outer s H E hr => ⟨_, (pss_cons (ps_if (PW.pt (pw_or (pt_not (pt_val (pe_callB (call_isiK (K := K) rfl) (by rfl) T.b_isinstance (by decide +kernel) (pa_cons (pv 2) (pa_cons (pe_bltn (v := .ty "tuple") (by rfl) T.b_tuple (by decide +kernel) rfl) pa_nil))))) (pw_or1 (pt_cmpR (op_neK (K := K) rfl hr.units) (pe_lc (own := [("one", 3)]) (by rfl) sc_l_are_looks.nd (pi_tupleK (K := K) rfl (pv 2)) (blkOk_by (own := [("one", 3)]) (N := N_l_are_looks) (sc := defScope s_l_are_looks) (by decide +kernel)) (fun _ _ _ _ _ => (pg_name (i := 3) sc_l_are_looks.nd rfl (by first | exact Or.inl rfl | exact Or.inr rfl))) (fun _ _ _ _ _ => (pts_one (pt_not (pt_val (pe_call (ok_l_is_whole T) (hr.mono (by decide)) (by rfl) T.g_l_is_whole T.F_l_is_whole.kp (b_l_is_whole T) .nil pass0 (pa_cons (pv 3) (pa_cons pe_int (pa_cons (pe_op op_sub (pv 0) pe_int) pa_nil)))))))) (fun _ _ _ _ _ => pe_int)) (pe_lst pa_nil) (nomark _))))) (pss_one (ps_ret pe_bl)) pss_nil)
 (pss_cons (ps_if (pt_cmpR (op_neK (K := K) rfl hr.units) (pe_lc (own := [("one", 3), ("other", 4)]) (by rfl) sc_l_are_looks.nd (pi_zipK (by rfl) T.b_zip (pa_cons (pv 2) (pa_cons (pe_slice (sl_K (K := K) rfl) (pv 2) (po_some pe_int) po_none) pa_nil))) (blkOk_by (own := [("one", 3), ("other", 4)]) (N := N_l_are_looks) (sc := defScope s_l_are_looks) (by decide +kernel)) (fun _ _ _ _ _ => (pg_tupK (K := K) (n := 2) rfl (by rfl) (pgs_cons (pg_name (i := 3) sc_l_are_looks.nd rfl (by first | exact Or.inl rfl | exact Or.inr rfl)) (pgs_cons (pg_name (i := 4) sc_l_are_looks.nd rfl (by first | exact Or.inl rfl | exact Or.inr rfl)) pgs_nil)))) (fun _ _ _ _ _ => (pts_one (pt_not (pt_cmpR op_lt (pv 3) (pv 4) (nomark _))))) (fun _ _ _ _ _ => pe_int)) (pe_lst pa_nil) (nomark _)) (pss_one (ps_ret pe_bl)) pss_nil)
 (pss_one (ps_ret (pe_cmpR (op_eqK (K := K) rfl hr.units) (pe_lenSetT (K := K) rfl hr.units rfl (by rfl) T.b_len (by rfl) T.b_set (pe_lc (own := [("row", 5)]) (by rfl) sc_l_are_looks.nd (pi_listK (K := K) rfl (pv 1)) (blkOk_by (own := [("row", 5)]) (N := N_l_are_looks) (sc := defScope s_l_are_looks) (by decide +kernel)) (fun _ _ _ _ _ => (pg_name (i := 5) sc_l_are_looks.nd rfl (by first | exact Or.inl rfl | exact Or.inr rfl))) (fun _ _ _ _ _ => pts_nil) (fun _ _ _ _ _ => (pe_callTy (call_tupleK (K := K) rfl) (by rfl) T.b_tuple (by decide +kernel) (pa_cons (pe_lc (own := [("place", 6)]) (by rfl) sc_l_are_looks.nd (pi_tupleK (K := K) rfl (pv 2)) (blkOk_by (own := [("place", 6)]) (N := N_l_are_looks) (sc := { kind := ScopeKind.function, names := [(Str.ofString ".0", NameKind.local), (Str.ofString "row", NameKind.cell), (Str.ofString "tuple", NameKind.globalImplicit), (Str.ofString "thing", NameKind.cell)], isGenerator := false, isCoroutine := false }) (by decide +kernel)) (fun _ _ _ _ _ => (pg_name (i := 6) sc_l_are_looks.nd rfl (by first | exact Or.inl rfl | exact Or.inr rfl))) (fun _ _ _ _ _ => pts_nil) (fun _ _ _ _ _ => (pe_ix (ix_K (K := K) rfl) (pv 5) (pv 6) (fun _ _ => rfl)))) pa_nil))))) (pe_callB (call_lenK (K := K) rfl) (by rfl) T.b_len (by decide +kernel) (pa_cons (pv 1) pa_nil)) (nomark _)))))), ?_⟩
  exact (imp_seq (imp_if (imp_or (imp_not (imp_tB (imp_isi (k := .tuple) (imp_v 2)))) (imp_test (imp_op d_ne (imp_ofL (imp_lc (vs := [3]) (imp_iT (imp_v 2)) (imp_gN 3) (only_N (by decide)) mono_N (imp_not (imp_tB (imp_call (F := F_l_is_whole) (imp_cons (imp_v 3) (imp_cons imp_int (imp_cons (imp_op d_sub (imp_v 0) imp_int) imp_nil)))))) imp_int)) (imp_lst imp_nil))))
 (imp_ret imp_bl)
 imp_next)
 (imp_seq (imp_if (imp_test (imp_op d_ne (imp_ofL (imp_lc (vs := [3, 4]) (imp_zip (imp_v 2) (imp_sl d_sl (imp_v 2) (imp_p imp_int) imp_noP)) (imp_gTup (imp_gCons (imp_gN 3) (imp_gCons (imp_gN 4) imp_gNil)) (qCons_len (qCons_len qNil_len))) (only_tup (only_cons (only_N (by decide)) (only_cons (only_N (by decide)) only_nil mono_N mono_nil) mono_N (mono_cons mono_N mono_nil))) (mono_tup (mono_cons mono_N (mono_cons mono_N mono_nil))) (imp_not (imp_test (imp_op d_lt (imp_v 3) (imp_v 4)))) imp_int)) (imp_lst imp_nil)))
 (imp_ret imp_bl)
 imp_next)
 (imp_ret (imp_op d_eq (imp_lenSetT (imp_ofL (imp_lc (vs := [5]) (imp_iL (imp_v 1)) (imp_gN 5) (only_N (by decide)) mono_N imp_yes (imp_cb d_tuple (imp_cons (imp_ofL (imp_lc (vs := [6]) (imp_iT (imp_v 2)) (imp_gN 6) (only_N (by decide)) mono_N imp_yes (imp_op d_ix (imp_v 5) (imp_v 6)))) imp_nil))))) (imp_cb d_len (imp_cons (imp_v 1) imp_nil))))))
theorem ok_l_fewest (T : TX K mg) : FnOk P w K mg base CX0 3 T.f_l_fewest T.d_l_fewest ["places", "rows"] (spP K F_l_fewest) := by
  refine okP (k := 2) (ps := ["places", "rows"]) (n := 4) T.F_l_fewest sc_l_fewest rfl fun cdv A outer s H E hr => ⟨_, (pss_cons (ps_set (i := 2) sc_l_fewest.nd rfl (by first | exact Or.inl rfl | exact Or.inr rfl) (pe_lst (pa_cons (pe_tup pa_nil) pa_nil)))
 (pss_one (ps_while PassesOwn.never (pt_truth pe_bl (by intro _; rfl)) (pss_cons (ps_for PassesOwn.never rfl (pi_listK (K := K) rfl (pv 2)) (pg_name (i := 3) sc_l_fewest.nd rfl (by first | exact Or.inl rfl | exact Or.inr rfl)) (pss_one (ps_if (pt_val (pe_call (ok_l_are_looks T) (hr.mono (by decide)) (by rfl) T.g_l_are_looks T.F_l_are_looks.kp (b_l_are_looks T) .nil pass0 (pa_cons (pv 0) (pa_cons (pv 1) (pa_cons (pv 3) pa_nil))))) (pss_one (ps_ret (pv 3))) pss_nil)))
 (pss_cons (ps_set (i := 4) sc_l_fewest.nd rfl (by first | exact Or.inl rfl | exact Or.inr rfl) (pe_lst pa_nil))
 (pss_cons (ps_for PassesOwn.never rfl (pi_listK (K := K) rfl (pv 2)) (pg_name (i := 3) sc_l_fewest.nd rfl (by first | exact Or.inl rfl | exact Or.inr rfl)) (pss_one (ps_set (i := 4) sc_l_fewest.nd rfl (by first | exact Or.inl rfl | exact Or.inr rfl) (pe_op (op_addK (K := K) rfl) (pv 4) (pe_lc (own := [("place", 5)]) (by rfl) sc_l_fewest.nd (pi_range2 (by rfl) T.b_range (pa_cons (pe_ifExp (pt_cmpR (op_neK (K := K) rfl hr.units) (pv 3) (pe_tup pa_nil) (nomark _)) (pe_op (op_addK (K := K) rfl) (pe_ix (ix_K (K := K) rfl) (pv 3) (pe_un un_neg pe_int) (fun _ _ => rfl)) pe_int) pe_int) (pa_cons (pv 0) pa_nil))) (blkOk_by (own := [("place", 5)]) (N := N_l_fewest) (sc := defScope s_l_fewest) (by decide +kernel)) (fun _ _ _ _ _ => (pg_name (i := 5) sc_l_fewest.nd rfl (by first | exact Or.inl rfl | exact Or.inr rfl))) (fun _ _ _ _ _ => pts_nil) (fun _ _ _ _ _ => (pe_op (op_addK (K := K) rfl) (pv 3) (pe_tup (pa_cons (pv 5) pa_nil)))))))))
 (pss_one (ps_set (i := 2) sc_l_fewest.nd rfl (by first | exact Or.inl rfl | exact Or.inr rfl) (pv 4))))))))), ?_⟩
  exact (imp_seq (imp_asg (imp_lst (imp_cons (imp_tup imp_nil) imp_nil)) (imp_gN 2))
 (imp_while 30 (imp_truth imp_bl) (imp_then [4] (imp_seq (imp_for (imp_iL (imp_v 2)) (imp_gN 3)
 (imp_then [3] (imp_if (imp_tB (imp_call (F := F_l_are_looks) (imp_cons (imp_v 0) (imp_cons (imp_v 1) (imp_cons (imp_v 3) imp_nil)))))
 (imp_ret (imp_v 3))
 imp_next)))
 (imp_seq (imp_asg (imp_lst imp_nil) (imp_gN 4))
 (imp_seq (imp_for (imp_iL (imp_v 2)) (imp_gN 3)
 (imp_then [3] (imp_asg (imp_op d_add (imp_v 4) (imp_ofL (imp_lc (vs := [5]) (imp_r2 (imp_cons (imp_ifE (imp_test (imp_op d_ne (imp_v 3) (imp_tup imp_nil))) (imp_op d_add (imp_op d_ix (imp_v 3) (imp_un d_neg imp_int)) imp_int) imp_int) (imp_cons (imp_v 0) imp_nil))) (imp_gN 5) (only_N (by decide)) mono_N imp_yes (imp_op d_add (imp_v 3) (imp_tup (imp_cons (imp_v 5) imp_nil)))))) (imp_gN 4))))
 (imp_asg (imp_v 4) (imp_gN 2))))))))
theorem ok_l_draws (T : TX K mg) : FnOk P w K mg base CX0 1 T.f_l_draws T.d_l_draws ["script", "k"] (spCell K cellF) := by
  refine T.F_l_draws.ok sc_l_draws (fun vs H Q E h => ?_) (fun cdv A outer s H vs Q E hr h => ?_)
  · obtain ⟨a, ns, k, c, rfl, _⟩ := h
    rfl
  obtain ⟨a, ns, k, c, rfl, hS, hF, q⟩ := h
  refine ⟨_, (pss_cons (ps_set (i := 2) sc_l_draws.nd rfl (by first | exact Or.inl rfl | exact Or.inr rfl) (pe_op (op_mulK (K := K) rfl) pe_int (pv 1)))
 (pss_cons (ps_if (pt_cmpR op_lt (pv 1) (pe_callB (call_lenK (K := K) rfl) (by rfl) T.b_len (by decide +kernel) (pa_cons (pv 0) pa_nil)) (nomark _)) (pss_one (ps_set (i := 2) sc_l_draws.nd rfl (by first | exact Or.inl rfl | exact Or.inr rfl) (pe_op op_mod (pe_ix (ix_K (K := K) rfl) (pv 0) (pv 1) (fun _ _ => rfl)) (pe_op (op_mulK (K := K) rfl) (pe_op (op_mulK (K := K) rfl) (pe_op (op_mulK (K := K) rfl) (pe_op (op_mulK (K := K) rfl) (pe_op op_pow pe_int pe_int) (pe_op op_pow pe_int pe_int)) (pe_op op_pow pe_int pe_int)) (pe_op op_pow pe_int pe_int)) (pe_op op_pow pe_int pe_int))))) (pss_one (ps_if (pt_cmpR op_gt (pe_callB (call_lenK (K := K) rfl) (by rfl) T.b_len (by decide +kernel) (pa_cons (pv 0) pa_nil)) pe_int (nomark _)) (pss_one (ps_set (i := 2) sc_l_draws.nd rfl (by first | exact Or.inl rfl | exact Or.inr rfl) (pe_op (op_addK (K := K) rfl) (pe_op op_mod (pe_ix (ix_K (K := K) rfl) (pv 0) (pe_op op_mod (pv 1) (pe_callB (call_lenK (K := K) rfl) (by rfl) T.b_len (by decide +kernel) (pa_cons (pv 0) pa_nil))) (fun _ _ => rfl)) (pe_op op_pow pe_int pe_int)) (pe_op (op_mulK (K := K) rfl) pe_int (pv 1))))) pss_nil)))
 (pss_one (ps_ret (pe_lst (pa_cons (pe_op (op_mulK (K := K) rfl) (pv 2) (pe_callTy call_int1 (by rfl) T.b_int (by decide +kernel) (pa_cons (pe_cmpR op_ge (pv 2) (pe_op op_pow pe_int pe_int) (nomark _)) pa_nil))) (pa_cons (pe_op (op_addK (K := K) rfl) pe_int (pe_op op_mod (pe_op (op_addK (K := K) rfl) (pe_op (op_mulK (K := K) rfl) (pv 2) pe_int) (pe_op (op_mulK (K := K) rfl) pe_int (pe_op (op_addK (K := K) rfl) (pv 1) pe_int))) pe_int)) pa_nil))))))), ?_⟩
  exact draws_read rfl hS hF q

theorem ok_law (T : TX K mg) (hF : LawHolds) : FnOk P w K mg base CX0 10 T.f_law T.d_law ["script"] (spLaw K) := by
  refine okLaw (k := 9) (n := 16) (M := 8) (F := cellF) (g := S_law) T.F_law sc_law rfl (by decide) (fun cdv A outer s H E hr => ⟨_, (pss_cons (ps_for PassesOwn.never rfl (pi_range1 (by rfl) T.b_range (pa_cons (pe_callB (call_maxK (K := K) rfl rfl) (by rfl) T.b_max (by decide +kernel) (pa_cons pe_int (pa_cons (pe_callB (call_minK (K := K) rfl rfl) (by rfl) T.b_min (by decide +kernel) (pa_cons pe_int (pa_cons (pe_callB (call_lenK (K := K) rfl) (by rfl) T.b_len (by decide +kernel) (pa_cons (pv 0) pa_nil)) pa_nil))) pa_nil))) pa_nil)) (pg_name (i := 1) sc_law.nd rfl (by first | exact Or.inl rfl | exact Or.inr rfl)) (pss_cons (ps_set (i := 2) sc_law.nd rfl (by first | exact Or.inl rfl | exact Or.inr rfl) (pe_call (ok_l_draws T) (hr.mono (by decide)) (by rfl) T.g_l_draws T.F_l_draws.kp (b_l_draws T) .nil pass0 (pa_cons (pv 0) (pa_cons (pv 1) pa_nil)))) (pss_cons (ps_asg (pe_call (ok_l_small T) (hr.mono (by decide)) (by rfl) T.g_l_small T.F_l_small.kp (b_l_small T) .nil pass0 (pa_cons (pv 2) pa_nil)) (pg_tupK (K := K) (n := 3) rfl (by rfl) (pgs_cons (pg_name (i := 3) sc_law.nd rfl (by first | exact Or.inl rfl | exact Or.inr rfl)) (pgs_cons (pg_name (i := 4) sc_law.nd rfl (by first | exact Or.inl rfl | exact Or.inr rfl)) (pgs_cons (pg_name (i := 5) sc_law.nd rfl (by first | exact Or.inl rfl | exact Or.inr rfl)) pgs_nil)))))
 (pss_cons (ps_par (i := 3) (j := 5) (by rfl) sc_law.nd rfl rfl (by decide) rfl rfl (pa_cons (pe_callB (cr_minS (K := K) rfl rfl) (by rfl) T.b_min (by decide +kernel) (pa_cons (pv 3) (pa_cons pe_int pa_nil))) (pa_cons (pe_callB (cr_minS (K := K) rfl rfl) (by rfl) T.b_min (by decide +kernel) (pa_cons (pv 5) (pa_cons pe_int pa_nil))) pa_nil)) (by rfl))
 (pss_cons (ps_set (i := 6) sc_law.nd rfl (by first | exact Or.inl rfl | exact Or.inr rfl) (pe_call (ok_l_told_counts T) (hr.mono (by decide)) (by rfl) T.g_l_told_counts T.F_l_told_counts.kp (b_l_told_counts T) .nil pass0 (pa_cons (pv 2) (pa_cons (pv 3) (pa_cons (pv 4) (pa_cons (pv 5) pa_nil))))))
 (pss_cons (ps_set (i := 7) sc_law.nd rfl (by first | exact Or.inl rfl | exact Or.inr rfl) (pe_call (ok_l_rows T) (hr.mono (by decide)) (by rfl) T.g_l_rows T.F_l_rows.kp (b_l_rows T) .nil pass0 (pa_cons (pv 3) (pa_cons (pv 4) (pa_cons (pv 5) (pa_cons (pv 6) pa_nil))))))
 (pss_cons (ps_par (i := 8) (j := 9) (by rfl) sc_law.nd rfl rfl (by decide) rfl rfl (pa_cons (pe_call (ok_l_bars T) (hr.mono (by decide)) (by rfl) T.g_l_bars T.F_l_bars.kp (b_l_bars T) .nil pass0 (pa_cons (pv 3) (pa_cons (pv 4) (pa_cons (pv 5) (pa_cons (pv 6) (pa_cons (pv 7) pa_nil)))))) (pa_cons (pe_call (ok_looks T) (hr.mono (by decide)) (by rfl) T.g_looks T.F_looks.kp (b_looks T) .nil pass0 (pa_cons (pv 3) (pa_cons (pv 4) (pa_cons (pv 5) (pa_cons (pv 6) pa_nil))))) pa_nil)) (by rfl))
 (pss_cons (ps_if (PW.pt (pw_or (pt_cmpR (op_neK (K := K) rfl hr.units) (pe_call (ok_bar T) (hr.mono (by decide)) (by rfl) T.g_bar T.F_bar.kp (b_bar T) .nil pass0 (pa_cons (pv 3) (pa_cons (pv 4) (pa_cons (pv 5) (pa_cons (pv 6) pa_nil))))) (pe_ix (ix_K (K := K) rfl) (pe_op (op_addK (K := K) rfl) (pv 8) (pe_lst (pa_cons pe_non pa_nil))) pe_int (fun _ _ => rfl)) (nomark _)) (pw_or1 (pt_cmpR (op_neK (K := K) rfl hr.units) (pv 9) (pe_ifExp (pt_cmpR (op_eqK (K := K) rfl hr.units) (pv 7) (pe_lst pa_nil) (nomark _)) pe_non (pe_call (ok_l_fewest T) (hr.mono (by decide)) (by rfl) T.g_l_fewest T.F_l_fewest.kp (b_l_fewest T) .nil pass0 (pa_cons (pv 3) (pa_cons (pv 7) pa_nil)))) (nomark _))))) (pss_one (ps_ret pe_bl)) pss_nil)
 (pss_cons (ps_set (i := 10) sc_law.nd rfl (by first | exact Or.inl rfl | exact Or.inr rfl) (pe_lst (pa_cons (pe_call (ok_l_thing T) (hr.mono (by decide)) (by rfl) T.g_l_thing T.F_l_thing.kp (b_l_thing T) .nil pass0 (pa_cons (pv 2) (pa_cons pe_int pa_nil))) (pa_cons pe_non (pa_cons (pe_listRg rfl (by rfl) T.b_list (prg_1 (by rfl) T.b_range (pv 3))) (pa_cons (pe_callTy (call_tupleK (K := K) rfl) (by rfl) T.b_tuple (by decide +kernel) (pa_cons (pe_listRg rfl (by rfl) T.b_list (prg_1 (by rfl) T.b_range (pv 3))) pa_nil)) pa_nil))))))
 (pss_cons (ps_if (pt_cmpR (op_neK (K := K) rfl hr.units) (pv 8) (pe_lst pa_nil) (nomark _)) (pss_cons (ps_set (i := 11) sc_law.nd rfl (by first | exact Or.inl rfl | exact Or.inr rfl) (pe_call (ok_l_otherwise T) (hr.mono (by decide)) (by rfl) T.g_l_otherwise T.F_l_otherwise.kp (b_l_otherwise T) .nil pass0 (pa_cons (pv 2) (pa_cons (pe_ix (ix_K (K := K) rfl) (pv 8) pe_int (fun _ _ => rfl)) (pa_cons pe_int pa_nil)))))
 (pss_one (ps_set (i := 10) sc_law.nd rfl (by first | exact Or.inl rfl | exact Or.inr rfl) (pe_op (op_addK (K := K) rfl) (pe_op (op_addK (K := K) rfl) (pv 10) (pe_slice (sl_K (K := K) rfl) (pv 8) po_none (po_some pe_int))) (pe_lst (pa_cons (pv 11) (pa_cons (pe_callTy (call_listK (K := K) rfl) (by rfl) T.b_list (by decide +kernel) (pa_cons (pe_ix (ix_K (K := K) rfl) (pv 8) pe_int (fun _ _ => rfl)) pa_nil)) (pa_cons (pe_revK (K := K) rfl (pe_ix (ix_K (K := K) rfl) (pv 8) pe_int (fun _ _ => rfl))) (pa_cons (pe_op (op_addK (K := K) rfl) (pe_ix (ix_K (K := K) rfl) (pv 8) pe_int (fun _ _ => rfl)) (pe_tup (pa_cons pe_int pa_nil))) pa_nil))))))))) pss_nil)
 (pss_cons (ps_for PassesOwn.never rfl (pi_range1 (by rfl) T.b_range (pa_cons pe_int pa_nil)) (pg_name (i := 12) sc_law.nd rfl (by first | exact Or.inl rfl | exact Or.inr rfl)) (pss_cons (ps_set (i := 13) sc_law.nd rfl (by first | exact Or.inl rfl | exact Or.inr rfl) (pe_tup (pa_cons (pe_call (ok_l_draw T) (hr.mono (by decide)) (by rfl) T.g_l_draw T.F_l_draw.kp (b_l_draw T) .nil pass0 (pa_cons (pv 2) (pa_cons (pv 3) pa_nil))) (pa_cons (pe_call (ok_l_draw T) (hr.mono (by decide)) (by rfl) T.g_l_draw T.F_l_draw.kp (b_l_draw T) .nil pass0 (pa_cons (pv 2) (pa_cons (pv 3) pa_nil))) pa_nil))))
 (pss_cons (ps_set (i := 14) sc_law.nd rfl (by first | exact Or.inl rfl | exact Or.inr rfl) (pe_op op_sub (pe_op (op_addK (K := K) rfl) (pe_ix (ix_K (K := K) rfl) (pv 6) pe_int (fun _ _ => rfl)) (pe_call (ok_l_draw T) (hr.mono (by decide)) (by rfl) T.g_l_draw T.F_l_draw.kp (b_l_draw T) .nil pass0 (pa_cons (pv 2) (pa_cons pe_int pa_nil)))) pe_int))
 (pss_cons (ps_set (i := 10) sc_law.nd rfl (by first | exact Or.inl rfl | exact Or.inr rfl) (pe_op (op_addK (K := K) rfl) (pv 10) (pe_lst (pa_cons (pe_op (op_addK (K := K) rfl) (pe_tup (pa_cons pe_str pa_nil)) (pv 13)) (pa_cons (pe_tup (pa_cons pe_str (pa_cons (pv 14) pa_nil))) (pa_cons (pe_tup (pa_cons pe_str (pa_cons (pv 14) pa_nil))) (pa_cons (pe_tup (pa_cons pe_str (pa_cons pe_bl (pa_cons (pe_ix (ix_K (K := K) rfl) (pv 13) pe_int (fun _ _ => rfl)) pa_nil)))) (pa_cons (pv 13) pa_nil))))))))
 (pss_cons (ps_expr (pe_bm PySem.F.plainAttrs_list PySem.F.slot_list_append PySem.F.type_list_append mt_append (pv 10) (pa_cons (pe_callTy (call_tupleK (K := K) rfl) (by rfl) T.b_tuple (by decide +kernel) (pa_cons (pe_lc (own := [("place", 17)]) (by rfl) sc_law.nd (pi_range1 (by rfl) T.b_range (pa_cons (pv 3) pa_nil)) (blkOk_by (own := [("place", 17)]) (N := N_law) (sc := defScope s_law) (by decide +kernel)) (fun _ _ _ _ _ => (pg_name (i := 17) sc_law.nd rfl (by first | exact Or.inl rfl | exact Or.inr rfl))) (fun _ _ _ _ _ => (pts_one (pt_cmpR (op_eqK (K := K) rfl hr.units) (pe_call (ok_l_draw T) (hr.mono (by decide)) (by rfl) T.g_l_draw T.F_l_draw.kp (b_l_draw T) .nil pass0 (pa_cons (pv 2) (pa_cons pe_int pa_nil))) pe_int (nomark _)))) (fun _ _ _ _ _ => (pv 17))) pa_nil)) pa_nil)))
 pss_nil)))))
 (pss_one (ps_for PassesOwn.never rfl (pi_listK (K := K) rfl (pe_op (op_addK (K := K) rfl) (pv 10) (pe_ifExp (pt_cmpR op_notN (pv 9) pe_non (nomark _)) (pe_lst (pa_cons (pv 9) (pa_cons (pe_op (op_addK (K := K) rfl) (pv 9) (pe_tup (pa_cons pe_int pa_nil))) (pa_cons (pe_slice (sl_K (K := K) rfl) (pv 9) po_none (po_some (pe_un un_neg pe_int))) (pa_cons (pe_revK (K := K) rfl (pv 9)) pa_nil))))) (pe_lst pa_nil)))) (pg_name (i := 15) sc_law.nd rfl (by first | exact Or.inl rfl | exact Or.inr rfl)) (pss_cons (ps_set (i := 16) sc_law.nd rfl (by first | exact Or.inl rfl | exact Or.inr rfl) (pe_and (pe_cmpR (op_inK (K := K) rfl (room65 hr)) (pv 15) (pv 8) (by rfl)) (pe_one (pe_cmpR (op_eqK (K := K) rfl hr.units) (pe_lc (own := [("one", 18)]) (by rfl) sc_law.nd (pi_tupleK (K := K) rfl (pv 15)) (blkOk_by (own := [("one", 18)]) (N := N_law) (sc := defScope s_law) (by decide +kernel)) (fun _ _ _ _ _ => (pg_name (i := 18) sc_law.nd rfl (by first | exact Or.inl rfl | exact Or.inr rfl))) (fun _ _ _ _ _ => (pts_one (pt_val (pe_callB (call_isiK (K := K) rfl) (by rfl) T.b_isinstance (by decide +kernel) (pa_cons (pv 18) (pa_cons (pe_bltn (v := .ty "bool") (by rfl) T.b_bool (by decide +kernel) rfl) pa_nil)))))) (fun _ _ _ _ _ => pe_int)) (pe_lst pa_nil) (nomark _)))))
 (pss_cons (ps_if (pt_not (pt_val (pe_call (ok_l_truly T) (hr.mono (by decide)) (by rfl) T.g_l_truly T.F_l_truly.kp (b_l_truly T) .nil pass0 (pa_cons (pe_call (ok_is_bar T) (hr.mono (by decide)) (by rfl) T.g_is_bar T.F_is_bar.kp (b_is_bar T) .nil pass0 (pa_cons (pv 3) (pa_cons (pv 4) (pa_cons (pv 5) (pa_cons (pv 6) (pa_cons (pv 15) pa_nil)))))) (pa_cons (pv 16) pa_nil))))) (pss_one (ps_ret pe_bl)) pss_nil)
 (pss_one (ps_if (pt_not (pt_val (pe_call (ok_l_truly T) (hr.mono (by decide)) (by rfl) T.g_l_truly T.F_l_truly.kp (b_l_truly T) .nil pass0 (pa_cons (pe_call (ok_are_looks T) (hr.mono (by decide)) (by rfl) T.g_are_looks T.F_are_looks.kp (b_are_looks T) .nil pass0 (pa_cons (pv 3) (pa_cons (pv 4) (pa_cons (pv 5) (pa_cons (pv 6) (pa_cons (pv 15) pa_nil)))))) (pa_cons (pe_call (ok_l_are_looks T) (hr.mono (by decide)) (by rfl) T.g_l_are_looks T.F_l_are_looks.kp (b_l_are_looks T) .nil pass0 (pa_cons (pv 3) (pa_cons (pv 7) (pa_cons (pv 15) pa_nil)))) pa_nil))))) (pss_one (ps_ret pe_bl)) pss_nil))))))))))))))))) (pss_one (ps_ret pe_bl))), ?_⟩) hF
  exact (imp_then [3, 4, 5, 6, 7, 8, 9, 10] (imp_seq (imp_asg (imp_callD (F := F_l_small) (i := 2) imp_nil) (imp_gTup (imp_gCons (imp_gN 3) (imp_gCons (imp_gN 4) (imp_gCons (imp_gN 5) imp_gNil))) (qCons_len (qCons_len (qCons_len qNil_len)))))
 (imp_seq (imp_many2 (imp_avP (imp_cb d_minS (imp_cons (imp_v 3) (imp_cons imp_int imp_nil))) (imp_avP (imp_cb d_minS (imp_cons (imp_v 5) (imp_cons imp_int imp_nil))) imp_avNil)))
 (imp_seq (imp_asg (imp_callD (F := F_l_told_counts) (i := 2) (imp_cons (imp_v 3) (imp_cons (imp_v 4) (imp_cons (imp_v 5) imp_nil)))) (imp_gN 6))
 (imp_seq (imp_asg (imp_call (F := F_l_rows) (imp_cons (imp_v 3) (imp_cons (imp_v 4) (imp_cons (imp_v 5) (imp_cons (imp_v 6) imp_nil))))) (imp_gN 7))
 (imp_seq (imp_many2 (imp_avP (imp_call (F := F_l_bars) (imp_cons (imp_v 3) (imp_cons (imp_v 4) (imp_cons (imp_v 5) (imp_cons (imp_v 6) (imp_cons (imp_v 7) imp_nil)))))) (imp_avP (imp_call (F := F_looks) (imp_cons (imp_v 3) (imp_cons (imp_v 4) (imp_cons (imp_v 5) (imp_cons (imp_v 6) imp_nil))))) imp_avNil)))
 (imp_seq (imp_if (imp_or (imp_test (imp_op d_ne (imp_call (F := F_bar) (imp_cons (imp_v 3) (imp_cons (imp_v 4) (imp_cons (imp_v 5) (imp_cons (imp_v 6) imp_nil))))) (imp_op d_ix (imp_op d_add (imp_v 8) (imp_lst (imp_cons imp_non imp_nil))) imp_int))) (imp_test (imp_op d_ne (imp_v 9) (imp_ifE (imp_test (imp_op d_eq (imp_v 7) (imp_lst imp_nil))) imp_non (imp_call (F := F_l_fewest) (imp_cons (imp_v 3) (imp_cons (imp_v 7) imp_nil)))))))
 (imp_ret imp_bl)
 imp_next)
 (imp_seq (imp_asg (imp_lst (imp_cons (imp_callD (F := F_l_thing) (i := 2) (imp_cons imp_int imp_nil)) (imp_cons imp_non (imp_cons (imp_ofL (imp_rgL1 (imp_v 3))) (imp_cons (imp_cb d_tuple (imp_cons (imp_ofL (imp_rgL1 (imp_v 3))) imp_nil)) imp_nil))))) (imp_gN 10))
 (imp_seq (imp_if (imp_test (imp_op d_ne (imp_v 8) (imp_lst imp_nil)))
 (imp_then [11] (imp_seq (imp_asg (imp_callD (F := F_l_otherwise) (i := 2) (imp_cons (imp_op d_ix (imp_v 8) imp_int) (imp_cons imp_int imp_nil))) (imp_gN 11))
 (imp_asg (imp_op d_add (imp_op d_add (imp_v 10) (imp_sl d_sl (imp_v 8) imp_noP (imp_p imp_int))) (imp_lst (imp_cons (imp_v 11) (imp_cons (imp_ofL (imp_listOf (imp_cons (imp_op d_ix (imp_v 8) imp_int) imp_nil))) (imp_cons (imp_revA (imp_op d_ix (imp_v 8) imp_int)) (imp_cons (imp_op d_add (imp_op d_ix (imp_v 8) imp_int) (imp_tup (imp_cons imp_int imp_nil))) imp_nil)))))) (imp_gN 10))))
 imp_next)
 (imp_seq (imp_for (imp_r1 (imp_cons imp_int imp_nil)) (imp_gN 12)
 (imp_then [12, 13, 14] (imp_seq (imp_asg (imp_tup (imp_cons (imp_callD (F := F_l_draw) (i := 2) (imp_cons (imp_v 3) imp_nil)) (imp_cons (imp_callD (F := F_l_draw) (i := 2) (imp_cons (imp_v 3) imp_nil)) imp_nil))) (imp_gN 13))
 (imp_seq (imp_asg (imp_op d_sub (imp_op d_add (imp_op d_ix (imp_v 6) imp_int) (imp_callD (F := F_l_draw) (i := 2) (imp_cons imp_int imp_nil))) imp_int) (imp_gN 14))
 (imp_seq (imp_asgL 10 (imp_addL (imp_v 10) (imp_lst (imp_cons (imp_op d_add (imp_tup (imp_cons imp_str imp_nil)) (imp_v 13)) (imp_cons (imp_tup (imp_cons imp_str (imp_cons (imp_v 14) imp_nil))) (imp_cons (imp_tup (imp_cons imp_str (imp_cons (imp_v 14) imp_nil))) (imp_cons (imp_tup (imp_cons imp_str (imp_cons imp_bl (imp_cons (imp_op d_ix (imp_v 13) imp_int) imp_nil)))) (imp_cons (imp_v 13) imp_nil))))))))
 (imp_seq (imp_app (i := 10) (imp_cb d_tuple (imp_cons (imp_ofL (imp_lc (vs := [17]) (imp_r1 (imp_cons (imp_v 3) imp_nil)) (imp_gN 17) (only_N (by decide)) mono_N (imp_test (imp_op d_eq (imp_callD (F := F_l_draw) (i := 2) (imp_cons imp_int imp_nil)) imp_int)) (imp_v 17))) imp_nil)))
 (imp_frz 10 imp_next)))))))
 (imp_for (imp_iL (imp_op d_add (imp_v 10) (imp_ifE (imp_test (imp_op d_notN (imp_v 9) imp_non)) (imp_lst (imp_cons (imp_v 9) (imp_cons (imp_op d_add (imp_v 9) (imp_tup (imp_cons imp_int imp_nil))) (imp_cons (imp_sl d_sl (imp_v 9) imp_noP (imp_p (imp_un d_neg imp_int))) (imp_cons (imp_revA (imp_v 9)) imp_nil))))) (imp_lst imp_nil)))) (imp_gN 15)
 (imp_then [15, 16] (imp_seq (imp_asg (imp_andV (imp_op d_in (imp_v 15) (imp_v 8)) (imp_op d_eq (imp_ofL (imp_lc (vs := [18]) (imp_iT (imp_v 15)) (imp_gN 18) (only_N (by decide)) mono_N (imp_tB (imp_isi (k := .bool) (imp_v 18))) imp_int)) (imp_lst imp_nil))) (imp_gN 16))
 (imp_seq (imp_if (imp_not (imp_tB (imp_call (F := F_l_truly) (imp_cons (imp_call (F := F_is_bar) (imp_cons (imp_v 3) (imp_cons (imp_v 4) (imp_cons (imp_v 5) (imp_cons (imp_v 6) (imp_cons (imp_v 15) imp_nil)))))) (imp_cons (imp_v 16) imp_nil)))))
 (imp_ret imp_bl)
 imp_next)
 (imp_if (imp_not (imp_tB (imp_call (F := F_l_truly) (imp_cons (imp_call (F := F_are_looks) (imp_cons (imp_v 3) (imp_cons (imp_v 4) (imp_cons (imp_v 5) (imp_cons (imp_v 6) (imp_cons (imp_v 15) imp_nil)))))) (imp_cons (imp_call (F := F_l_are_looks) (imp_cons (imp_v 3) (imp_cons (imp_v 7) (imp_cons (imp_v 15) imp_nil)))) imp_nil)))))
 (imp_ret imp_bl)
 imp_next)))))))))))))))
end
end X
namespace X
open PySem PySem.Spec L2 DL
theorem all_mk {l : PySem.W.OpenLaw} {w : World} {K : PySem.W.Frag} {h : Heap} {mg : Str → Option Value} {fa : Addr} (hF : LawHolds) (X : K.In h) (G : h.Ns mainGlobals mg) (hfa : mg "law" = some (.ref fa)) {f_is_between : Addr} {oc_is_between kV_is_between dc_is_between pm_is_between cd_is_between ct_is_between : Value} {od_is_between an_is_between : Option Addr} {sl_is_between : Array (Option Value)}
  {f_rises : Addr} {oc_rises kV_rises dc_rises pm_rises cd_rises ct_rises : Value} {od_rises an_rises : Option Addr} {sl_rises : Array (Option Value)}
  {f_ranges : Addr} {oc_ranges kV_ranges dc_ranges pm_ranges cd_ranges ct_ranges : Value} {od_ranges an_ranges : Option Addr} {sl_ranges : Array (Option Value)}
  {f_tight : Addr} {oc_tight kV_tight dc_tight pm_tight cd_tight ct_tight : Value} {od_tight an_tight : Option Addr} {sl_tight : Array (Option Value)}
  {f_thread_bars : Addr} {oc_thread_bars kV_thread_bars dc_thread_bars pm_thread_bars cd_thread_bars ct_thread_bars : Value} {od_thread_bars an_thread_bars : Option Addr} {sl_thread_bars : Array (Option Value)}
  {f_bar : Addr} {oc_bar kV_bar dc_bar pm_bar cd_bar ct_bar : Value} {od_bar an_bar : Option Addr} {sl_bar : Array (Option Value)}
  {f_is_bar : Addr} {oc_is_bar kV_is_bar dc_is_bar pm_is_bar cd_is_bar ct_is_bar : Value} {od_is_bar an_is_bar : Option Addr} {sl_is_bar : Array (Option Value)}
  {f_open_threads : Addr} {oc_open_threads kV_open_threads dc_open_threads pm_open_threads cd_open_threads ct_open_threads : Value} {od_open_threads an_open_threads : Option Addr} {sl_open_threads : Array (Option Value)}
  {f_looks : Addr} {oc_looks kV_looks dc_looks pm_looks cd_looks ct_looks : Value} {od_looks an_looks : Option Addr} {sl_looks : Array (Option Value)}
  {f_are_looks : Addr} {oc_are_looks kV_are_looks dc_are_looks pm_are_looks cd_are_looks ct_are_looks : Value} {od_are_looks an_are_looks : Option Addr} {sl_are_looks : Array (Option Value)}
  {f_l_grown : Addr} {oc_l_grown kV_l_grown dc_l_grown pm_l_grown cd_l_grown ct_l_grown : Value} {od_l_grown an_l_grown : Option Addr} {sl_l_grown : Array (Option Value)}
  {f_l_is_whole : Addr} {oc_l_is_whole kV_l_is_whole dc_l_is_whole pm_l_is_whole cd_l_is_whole ct_l_is_whole : Value} {od_l_is_whole an_l_is_whole : Option Addr} {sl_l_is_whole : Array (Option Value)}
  {f_l_draws : Addr} {oc_l_draws kV_l_draws dc_l_draws pm_l_draws cd_l_draws ct_l_draws : Value} {od_l_draws an_l_draws : Option Addr} {sl_l_draws : Array (Option Value)}
  {f_l_draw : Addr} {oc_l_draw kV_l_draw dc_l_draw pm_l_draw cd_l_draw ct_l_draw : Value} {od_l_draw an_l_draw : Option Addr} {sl_l_draw : Array (Option Value)}
  {f_l_of : Addr} {oc_l_of kV_l_of dc_l_of pm_l_of cd_l_of ct_l_of : Value} {od_l_of an_l_of : Option Addr} {sl_l_of : Array (Option Value)}
  {f_l_small : Addr} {oc_l_small kV_l_small dc_l_small pm_l_small cd_l_small ct_l_small : Value} {od_l_small an_l_small : Option Addr} {sl_l_small : Array (Option Value)}
  {f_l_counts : Addr} {oc_l_counts kV_l_counts dc_l_counts pm_l_counts cd_l_counts ct_l_counts : Value} {od_l_counts an_l_counts : Option Addr} {sl_l_counts : Array (Option Value)}
  {f_l_row : Addr} {oc_l_row kV_l_row dc_l_row pm_l_row cd_l_row ct_l_row : Value} {od_l_row an_l_row : Option Addr} {sl_l_row : Array (Option Value)}
  {f_l_told_counts : Addr} {oc_l_told_counts kV_l_told_counts dc_l_told_counts pm_l_told_counts cd_l_told_counts ct_l_told_counts : Value} {od_l_told_counts an_l_told_counts : Option Addr} {sl_l_told_counts : Array (Option Value)}
  {f_l_rows : Addr} {oc_l_rows kV_l_rows dc_l_rows pm_l_rows cd_l_rows ct_l_rows : Value} {od_l_rows an_l_rows : Option Addr} {sl_l_rows : Array (Option Value)}
  {f_l_thing : Addr} {oc_l_thing kV_l_thing dc_l_thing pm_l_thing cd_l_thing ct_l_thing : Value} {od_l_thing an_l_thing : Option Addr} {sl_l_thing : Array (Option Value)}
  {f_l_otherwise : Addr} {oc_l_otherwise kV_l_otherwise dc_l_otherwise pm_l_otherwise cd_l_otherwise ct_l_otherwise : Value} {od_l_otherwise an_l_otherwise : Option Addr} {sl_l_otherwise : Array (Option Value)}
  {f_l_truly : Addr} {oc_l_truly kV_l_truly dc_l_truly pm_l_truly cd_l_truly ct_l_truly : Value} {od_l_truly an_l_truly : Option Addr} {sl_l_truly : Array (Option Value)}
  {f_l_bars : Addr} {oc_l_bars kV_l_bars dc_l_bars pm_l_bars cd_l_bars ct_l_bars : Value} {od_l_bars an_l_bars : Option Addr} {sl_l_bars : Array (Option Value)}
  {f_l_are_looks : Addr} {oc_l_are_looks kV_l_are_looks dc_l_are_looks pm_l_are_looks cd_l_are_looks ct_l_are_looks : Value} {od_l_are_looks an_l_are_looks : Option Addr} {sl_l_are_looks : Array (Option Value)}
  {f_l_fewest : Addr} {oc_l_fewest kV_l_fewest dc_l_fewest pm_l_fewest cd_l_fewest ct_l_fewest : Value} {od_l_fewest an_l_fewest : Option Addr} {sl_l_fewest : Array (Option Value)}
  {f_law : Addr} {oc_law kV_law dc_law pm_law cd_law ct_law : Value} {od_law an_law : Option Addr} {sl_law : Array (Option Value)}
  (a_is_between : PySem.W.nsIn K mainGlobals "is_between" = some (some (.ref f_is_between))) (l_is_between : K.lookup f_is_between = some ⟨oc_is_between, od_is_between, .func (PySem.W.fnOf "is_between" "is_between" (defArgs s_is_between) (defBody s_is_between) (defScope s_is_between) .none kV_is_between dc_is_between pm_is_between an_is_between cd_is_between ct_is_between), sl_is_between⟩) (c_is_between : PySem.W.codeIn K cd_is_between "is_between" = true) (k_is_between : PySem.W.keepIn K (.ref f_is_between) = true)
  (a_rises : PySem.W.nsIn K mainGlobals "rises" = some (some (.ref f_rises))) (l_rises : K.lookup f_rises = some ⟨oc_rises, od_rises, .func (PySem.W.fnOf "rises" "rises" (defArgs s_rises) (defBody s_rises) (defScope s_rises) .none kV_rises dc_rises pm_rises an_rises cd_rises ct_rises), sl_rises⟩) (c_rises : PySem.W.codeIn K cd_rises "rises" = true) (k_rises : PySem.W.keepIn K (.ref f_rises) = true)
  (a_ranges : PySem.W.nsIn K mainGlobals "ranges" = some (some (.ref f_ranges))) (l_ranges : K.lookup f_ranges = some ⟨oc_ranges, od_ranges, .func (PySem.W.fnOf "ranges" "ranges" (defArgs s_ranges) (defBody s_ranges) (defScope s_ranges) .none kV_ranges dc_ranges pm_ranges an_ranges cd_ranges ct_ranges), sl_ranges⟩) (c_ranges : PySem.W.codeIn K cd_ranges "ranges" = true) (k_ranges : PySem.W.keepIn K (.ref f_ranges) = true)
  (a_tight : PySem.W.nsIn K mainGlobals "tight" = some (some (.ref f_tight))) (l_tight : K.lookup f_tight = some ⟨oc_tight, od_tight, .func (PySem.W.fnOf "tight" "tight" (defArgs s_tight) (defBody s_tight) (defScope s_tight) .none kV_tight dc_tight pm_tight an_tight cd_tight ct_tight), sl_tight⟩) (c_tight : PySem.W.codeIn K cd_tight "tight" = true) (k_tight : PySem.W.keepIn K (.ref f_tight) = true)
  (a_thread_bars : PySem.W.nsIn K mainGlobals "thread_bars" = some (some (.ref f_thread_bars))) (l_thread_bars : K.lookup f_thread_bars = some ⟨oc_thread_bars, od_thread_bars, .func (PySem.W.fnOf "thread_bars" "thread_bars" (defArgs s_thread_bars) (defBody s_thread_bars) (defScope s_thread_bars) .none kV_thread_bars dc_thread_bars pm_thread_bars an_thread_bars cd_thread_bars ct_thread_bars), sl_thread_bars⟩) (c_thread_bars : PySem.W.codeIn K cd_thread_bars "thread_bars" = true) (k_thread_bars : PySem.W.keepIn K (.ref f_thread_bars) = true)
  (a_bar : PySem.W.nsIn K mainGlobals "bar" = some (some (.ref f_bar))) (l_bar : K.lookup f_bar = some ⟨oc_bar, od_bar, .func (PySem.W.fnOf "bar" "bar" (defArgs s_bar) (defBody s_bar) (defScope s_bar) .none kV_bar dc_bar pm_bar an_bar cd_bar ct_bar), sl_bar⟩) (c_bar : PySem.W.codeIn K cd_bar "bar" = true) (k_bar : PySem.W.keepIn K (.ref f_bar) = true)
  (a_is_bar : PySem.W.nsIn K mainGlobals "is_bar" = some (some (.ref f_is_bar))) (l_is_bar : K.lookup f_is_bar = some ⟨oc_is_bar, od_is_bar, .func (PySem.W.fnOf "is_bar" "is_bar" (defArgs s_is_bar) (defBody s_is_bar) (defScope s_is_bar) .none kV_is_bar dc_is_bar pm_is_bar an_is_bar cd_is_bar ct_is_bar), sl_is_bar⟩) (c_is_bar : PySem.W.codeIn K cd_is_bar "is_bar" = true) (k_is_bar : PySem.W.keepIn K (.ref f_is_bar) = true)
  (a_open_threads : PySem.W.nsIn K mainGlobals "open_threads" = some (some (.ref f_open_threads))) (l_open_threads : K.lookup f_open_threads = some ⟨oc_open_threads, od_open_threads, .func (PySem.W.fnOf "open_threads" "open_threads" (defArgs s_open_threads) (defBody s_open_threads) (defScope s_open_threads) .none kV_open_threads dc_open_threads pm_open_threads an_open_threads cd_open_threads ct_open_threads), sl_open_threads⟩) (c_open_threads : PySem.W.codeIn K cd_open_threads "open_threads" = true) (k_open_threads : PySem.W.keepIn K (.ref f_open_threads) = true)
  (a_looks : PySem.W.nsIn K mainGlobals "looks" = some (some (.ref f_looks))) (l_looks : K.lookup f_looks = some ⟨oc_looks, od_looks, .func (PySem.W.fnOf "looks" "looks" (defArgs s_looks) (defBody s_looks) (defScope s_looks) .none kV_looks dc_looks pm_looks an_looks cd_looks ct_looks), sl_looks⟩) (c_looks : PySem.W.codeIn K cd_looks "looks" = true) (k_looks : PySem.W.keepIn K (.ref f_looks) = true)
  (a_are_looks : PySem.W.nsIn K mainGlobals "are_looks" = some (some (.ref f_are_looks))) (l_are_looks : K.lookup f_are_looks = some ⟨oc_are_looks, od_are_looks, .func (PySem.W.fnOf "are_looks" "are_looks" (defArgs s_are_looks) (defBody s_are_looks) (defScope s_are_looks) .none kV_are_looks dc_are_looks pm_are_looks an_are_looks cd_are_looks ct_are_looks), sl_are_looks⟩) (c_are_looks : PySem.W.codeIn K cd_are_looks "are_looks" = true) (k_are_looks : PySem.W.keepIn K (.ref f_are_looks) = true)
  (a_l_grown : PySem.W.nsIn K mainGlobals "_law_grown" = some (some (.ref f_l_grown))) (l_l_grown : K.lookup f_l_grown = some ⟨oc_l_grown, od_l_grown, .func (PySem.W.fnOf "_law_grown" "_law_grown" (defArgs s_l_grown) (defBody s_l_grown) (defScope s_l_grown) .none kV_l_grown dc_l_grown pm_l_grown an_l_grown cd_l_grown ct_l_grown), sl_l_grown⟩) (c_l_grown : PySem.W.codeIn K cd_l_grown "_law_grown" = true) (k_l_grown : PySem.W.keepIn K (.ref f_l_grown) = true)
  (a_l_is_whole : PySem.W.nsIn K mainGlobals "_law_is_whole" = some (some (.ref f_l_is_whole))) (l_l_is_whole : K.lookup f_l_is_whole = some ⟨oc_l_is_whole, od_l_is_whole, .func (PySem.W.fnOf "_law_is_whole" "_law_is_whole" (defArgs s_l_is_whole) (defBody s_l_is_whole) (defScope s_l_is_whole) .none kV_l_is_whole dc_l_is_whole pm_l_is_whole an_l_is_whole cd_l_is_whole ct_l_is_whole), sl_l_is_whole⟩) (c_l_is_whole : PySem.W.codeIn K cd_l_is_whole "_law_is_whole" = true) (k_l_is_whole : PySem.W.keepIn K (.ref f_l_is_whole) = true)
  (a_l_draws : PySem.W.nsIn K mainGlobals "_law_draws" = some (some (.ref f_l_draws))) (l_l_draws : K.lookup f_l_draws = some ⟨oc_l_draws, od_l_draws, .func (PySem.W.fnOf "_law_draws" "_law_draws" (defArgs s_l_draws) (defBody s_l_draws) (defScope s_l_draws) .none kV_l_draws dc_l_draws pm_l_draws an_l_draws cd_l_draws ct_l_draws), sl_l_draws⟩) (c_l_draws : PySem.W.codeIn K cd_l_draws "_law_draws" = true) (k_l_draws : PySem.W.keepIn K (.ref f_l_draws) = true)
  (a_l_draw : PySem.W.nsIn K mainGlobals "_law_draw" = some (some (.ref f_l_draw))) (l_l_draw : K.lookup f_l_draw = some ⟨oc_l_draw, od_l_draw, .func (PySem.W.fnOf "_law_draw" "_law_draw" (defArgs s_l_draw) (defBody s_l_draw) (defScope s_l_draw) .none kV_l_draw dc_l_draw pm_l_draw an_l_draw cd_l_draw ct_l_draw), sl_l_draw⟩) (c_l_draw : PySem.W.codeIn K cd_l_draw "_law_draw" = true) (k_l_draw : PySem.W.keepIn K (.ref f_l_draw) = true)
  (a_l_of : PySem.W.nsIn K mainGlobals "_law_of" = some (some (.ref f_l_of))) (l_l_of : K.lookup f_l_of = some ⟨oc_l_of, od_l_of, .func (PySem.W.fnOf "_law_of" "_law_of" (defArgs s_l_of) (defBody s_l_of) (defScope s_l_of) .none kV_l_of dc_l_of pm_l_of an_l_of cd_l_of ct_l_of), sl_l_of⟩) (c_l_of : PySem.W.codeIn K cd_l_of "_law_of" = true) (k_l_of : PySem.W.keepIn K (.ref f_l_of) = true)
  (a_l_small : PySem.W.nsIn K mainGlobals "_law_small" = some (some (.ref f_l_small))) (l_l_small : K.lookup f_l_small = some ⟨oc_l_small, od_l_small, .func (PySem.W.fnOf "_law_small" "_law_small" (defArgs s_l_small) (defBody s_l_small) (defScope s_l_small) .none kV_l_small dc_l_small pm_l_small an_l_small cd_l_small ct_l_small), sl_l_small⟩) (c_l_small : PySem.W.codeIn K cd_l_small "_law_small" = true) (k_l_small : PySem.W.keepIn K (.ref f_l_small) = true)
  (a_l_counts : PySem.W.nsIn K mainGlobals "_law_counts" = some (some (.ref f_l_counts))) (l_l_counts : K.lookup f_l_counts = some ⟨oc_l_counts, od_l_counts, .func (PySem.W.fnOf "_law_counts" "_law_counts" (defArgs s_l_counts) (defBody s_l_counts) (defScope s_l_counts) .none kV_l_counts dc_l_counts pm_l_counts an_l_counts cd_l_counts ct_l_counts), sl_l_counts⟩) (c_l_counts : PySem.W.codeIn K cd_l_counts "_law_counts" = true) (k_l_counts : PySem.W.keepIn K (.ref f_l_counts) = true)
  (a_l_row : PySem.W.nsIn K mainGlobals "_law_row" = some (some (.ref f_l_row))) (l_l_row : K.lookup f_l_row = some ⟨oc_l_row, od_l_row, .func (PySem.W.fnOf "_law_row" "_law_row" (defArgs s_l_row) (defBody s_l_row) (defScope s_l_row) .none kV_l_row dc_l_row pm_l_row an_l_row cd_l_row ct_l_row), sl_l_row⟩) (c_l_row : PySem.W.codeIn K cd_l_row "_law_row" = true) (k_l_row : PySem.W.keepIn K (.ref f_l_row) = true)
  (a_l_told_counts : PySem.W.nsIn K mainGlobals "_law_told_counts" = some (some (.ref f_l_told_counts))) (l_l_told_counts : K.lookup f_l_told_counts = some ⟨oc_l_told_counts, od_l_told_counts, .func (PySem.W.fnOf "_law_told_counts" "_law_told_counts" (defArgs s_l_told_counts) (defBody s_l_told_counts) (defScope s_l_told_counts) .none kV_l_told_counts dc_l_told_counts pm_l_told_counts an_l_told_counts cd_l_told_counts ct_l_told_counts), sl_l_told_counts⟩) (c_l_told_counts : PySem.W.codeIn K cd_l_told_counts "_law_told_counts" = true) (k_l_told_counts : PySem.W.keepIn K (.ref f_l_told_counts) = true)
  (a_l_rows : PySem.W.nsIn K mainGlobals "_law_rows" = some (some (.ref f_l_rows))) (l_l_rows : K.lookup f_l_rows = some ⟨oc_l_rows, od_l_rows, .func (PySem.W.fnOf "_law_rows" "_law_rows" (defArgs s_l_rows) (defBody s_l_rows) (defScope s_l_rows) .none kV_l_rows dc_l_rows pm_l_rows an_l_rows cd_l_rows ct_l_rows), sl_l_rows⟩) (c_l_rows : PySem.W.codeIn K cd_l_rows "_law_rows" = true) (k_l_rows : PySem.W.keepIn K (.ref f_l_rows) = true)
  (a_l_thing : PySem.W.nsIn K mainGlobals "_law_thing" = some (some (.ref f_l_thing))) (l_l_thing : K.lookup f_l_thing = some ⟨oc_l_thing, od_l_thing, .func (PySem.W.fnOf "_law_thing" "_law_thing" (defArgs s_l_thing) (defBody s_l_thing) (defScope s_l_thing) .none kV_l_thing dc_l_thing pm_l_thing an_l_thing cd_l_thing ct_l_thing), sl_l_thing⟩) (c_l_thing : PySem.W.codeIn K cd_l_thing "_law_thing" = true) (k_l_thing : PySem.W.keepIn K (.ref f_l_thing) = true)
  (a_l_otherwise : PySem.W.nsIn K mainGlobals "_law_otherwise" = some (some (.ref f_l_otherwise))) (l_l_otherwise : K.lookup f_l_otherwise = some ⟨oc_l_otherwise, od_l_otherwise, .func (PySem.W.fnOf "_law_otherwise" "_law_otherwise" (defArgs s_l_otherwise) (defBody s_l_otherwise) (defScope s_l_otherwise) .none kV_l_otherwise dc_l_otherwise pm_l_otherwise an_l_otherwise cd_l_otherwise ct_l_otherwise), sl_l_otherwise⟩) (c_l_otherwise : PySem.W.codeIn K cd_l_otherwise "_law_otherwise" = true) (k_l_otherwise : PySem.W.keepIn K (.ref f_l_otherwise) = true)
  (a_l_truly : PySem.W.nsIn K mainGlobals "_law_truly" = some (some (.ref f_l_truly))) (l_l_truly : K.lookup f_l_truly = some ⟨oc_l_truly, od_l_truly, .func (PySem.W.fnOf "_law_truly" "_law_truly" (defArgs s_l_truly) (defBody s_l_truly) (defScope s_l_truly) .none kV_l_truly dc_l_truly pm_l_truly an_l_truly cd_l_truly ct_l_truly), sl_l_truly⟩) (c_l_truly : PySem.W.codeIn K cd_l_truly "_law_truly" = true) (k_l_truly : PySem.W.keepIn K (.ref f_l_truly) = true)
  (a_l_bars : PySem.W.nsIn K mainGlobals "_law_bars" = some (some (.ref f_l_bars))) (l_l_bars : K.lookup f_l_bars = some ⟨oc_l_bars, od_l_bars, .func (PySem.W.fnOf "_law_bars" "_law_bars" (defArgs s_l_bars) (defBody s_l_bars) (defScope s_l_bars) .none kV_l_bars dc_l_bars pm_l_bars an_l_bars cd_l_bars ct_l_bars), sl_l_bars⟩) (c_l_bars : PySem.W.codeIn K cd_l_bars "_law_bars" = true) (k_l_bars : PySem.W.keepIn K (.ref f_l_bars) = true)
  (a_l_are_looks : PySem.W.nsIn K mainGlobals "_law_are_looks" = some (some (.ref f_l_are_looks))) (l_l_are_looks : K.lookup f_l_are_looks = some ⟨oc_l_are_looks, od_l_are_looks, .func (PySem.W.fnOf "_law_are_looks" "_law_are_looks" (defArgs s_l_are_looks) (defBody s_l_are_looks) (defScope s_l_are_looks) .none kV_l_are_looks dc_l_are_looks pm_l_are_looks an_l_are_looks cd_l_are_looks ct_l_are_looks), sl_l_are_looks⟩) (c_l_are_looks : PySem.W.codeIn K cd_l_are_looks "_law_are_looks" = true) (k_l_are_looks : PySem.W.keepIn K (.ref f_l_are_looks) = true)
  (a_l_fewest : PySem.W.nsIn K mainGlobals "_law_fewest" = some (some (.ref f_l_fewest))) (l_l_fewest : K.lookup f_l_fewest = some ⟨oc_l_fewest, od_l_fewest, .func (PySem.W.fnOf "_law_fewest" "_law_fewest" (defArgs s_l_fewest) (defBody s_l_fewest) (defScope s_l_fewest) .none kV_l_fewest dc_l_fewest pm_l_fewest an_l_fewest cd_l_fewest ct_l_fewest), sl_l_fewest⟩) (c_l_fewest : PySem.W.codeIn K cd_l_fewest "_law_fewest" = true) (k_l_fewest : PySem.W.keepIn K (.ref f_l_fewest) = true)
  (a_law : PySem.W.nsIn K mainGlobals "law" = some (some (.ref f_law))) (l_law : K.lookup f_law = some ⟨oc_law, od_law, .func (PySem.W.fnOf "law" "law" (defArgs s_law) (defBody s_law) (defScope s_law) .none kV_law dc_law pm_law an_law cd_law ct_law), sl_law⟩) (c_law : PySem.W.codeIn K cd_law "law" = true) (k_law : PySem.W.keepIn K (.ref f_law) = true)
  (z_abs : PySem.W.nsIn K mainGlobals "abs" = some none)
  (z_all : PySem.W.nsIn K mainGlobals "all" = some none)
  (z_any : PySem.W.nsIn K mainGlobals "any" = some none)
  (z_bool : PySem.W.nsIn K mainGlobals "bool" = some none)
  (z_enumerate : PySem.W.nsIn K mainGlobals "enumerate" = some none)
  (z_int : PySem.W.nsIn K mainGlobals "int" = some none)
  (z_isinstance : PySem.W.nsIn K mainGlobals "isinstance" = some none)
  (z_len : PySem.W.nsIn K mainGlobals "len" = some none)
  (z_list : PySem.W.nsIn K mainGlobals "list" = some none)
  (z_max : PySem.W.nsIn K mainGlobals "max" = some none)
  (z_min : PySem.W.nsIn K mainGlobals "min" = some none)
  (z_range : PySem.W.nsIn K mainGlobals "range" = some none)
  (z_set : PySem.W.nsIn K mainGlobals "set" = some none)
  (z_str : PySem.W.nsIn K mainGlobals "str" = some none)
  (z_sum : PySem.W.nsIn K mainGlobals "sum" = some none)
  (z_tuple : PySem.W.nsIn K mainGlobals "tuple" = some none)
  (z_zip : PySem.W.nsIn K mainGlobals "zip" = some none) :
    ∃ fd : FuncData, (∀ (s : Shared) (v : Value), BindsTo s fd ⟨[v], []⟩ [("script", v)]) ∧ ∀ base : Heap, K.In base → base.Ns mainGlobals mg → FnOk l.prog w K mg base CX0 10 fa fd ["script"] (spLaw K) := by
  have e := hfa.symm.trans (PySem.W.mg_of X G a_law)
  cases e
  let T : TX K mg := { f_is_between := _, d_is_between := _, F_is_between := fun_mk (st := s_is_between) l_is_between c_is_between k_is_between, g_is_between := PySem.W.mg_of X G a_is_between, f_rises := _, d_rises := _, F_rises := fun_mk (st := s_rises) l_rises c_rises k_rises, g_rises := PySem.W.mg_of X G a_rises, f_ranges := _, d_ranges := _, F_ranges := fun_mk (st := s_ranges) l_ranges c_ranges k_ranges, g_ranges := PySem.W.mg_of X G a_ranges, f_tight := _, d_tight := _, F_tight := fun_mk (st := s_tight) l_tight c_tight k_tight, g_tight := PySem.W.mg_of X G a_tight, f_thread_bars := _, d_thread_bars := _, F_thread_bars := fun_mk (st := s_thread_bars) l_thread_bars c_thread_bars k_thread_bars, g_thread_bars := PySem.W.mg_of X G a_thread_bars, f_bar := _, d_bar := _, F_bar := fun_mk (st := s_bar) l_bar c_bar k_bar, g_bar := PySem.W.mg_of X G a_bar, f_is_bar := _, d_is_bar := _, F_is_bar := fun_mk (st := s_is_bar) l_is_bar c_is_bar k_is_bar, g_is_bar := PySem.W.mg_of X G a_is_bar, f_open_threads := _, d_open_threads := _, F_open_threads := fun_mk (st := s_open_threads) l_open_threads c_open_threads k_open_threads, g_open_threads := PySem.W.mg_of X G a_open_threads, f_looks := _, d_looks := _, F_looks := fun_mk (st := s_looks) l_looks c_looks k_looks, g_looks := PySem.W.mg_of X G a_looks, f_are_looks := _, d_are_looks := _, F_are_looks := fun_mk (st := s_are_looks) l_are_looks c_are_looks k_are_looks, g_are_looks := PySem.W.mg_of X G a_are_looks, f_l_grown := _, d_l_grown := _, F_l_grown := fun_mk (st := s_l_grown) l_l_grown c_l_grown k_l_grown, g_l_grown := PySem.W.mg_of X G a_l_grown, f_l_is_whole := _, d_l_is_whole := _, F_l_is_whole := fun_mk (st := s_l_is_whole) l_l_is_whole c_l_is_whole k_l_is_whole, g_l_is_whole := PySem.W.mg_of X G a_l_is_whole, f_l_draws := _, d_l_draws := _, F_l_draws := fun_mk (st := s_l_draws) l_l_draws c_l_draws k_l_draws, g_l_draws := PySem.W.mg_of X G a_l_draws, f_l_draw := _, d_l_draw := _, F_l_draw := fun_mk (st := s_l_draw) l_l_draw c_l_draw k_l_draw, g_l_draw := PySem.W.mg_of X G a_l_draw, f_l_of := _, d_l_of := _, F_l_of := fun_mk (st := s_l_of) l_l_of c_l_of k_l_of, g_l_of := PySem.W.mg_of X G a_l_of, f_l_small := _, d_l_small := _, F_l_small := fun_mk (st := s_l_small) l_l_small c_l_small k_l_small, g_l_small := PySem.W.mg_of X G a_l_small, f_l_counts := _, d_l_counts := _, F_l_counts := fun_mk (st := s_l_counts) l_l_counts c_l_counts k_l_counts, g_l_counts := PySem.W.mg_of X G a_l_counts, f_l_row := _, d_l_row := _, F_l_row := fun_mk (st := s_l_row) l_l_row c_l_row k_l_row, g_l_row := PySem.W.mg_of X G a_l_row, f_l_told_counts := _, d_l_told_counts := _, F_l_told_counts := fun_mk (st := s_l_told_counts) l_l_told_counts c_l_told_counts k_l_told_counts, g_l_told_counts := PySem.W.mg_of X G a_l_told_counts, f_l_rows := _, d_l_rows := _, F_l_rows := fun_mk (st := s_l_rows) l_l_rows c_l_rows k_l_rows, g_l_rows := PySem.W.mg_of X G a_l_rows, f_l_thing := _, d_l_thing := _, F_l_thing := fun_mk (st := s_l_thing) l_l_thing c_l_thing k_l_thing, g_l_thing := PySem.W.mg_of X G a_l_thing, f_l_otherwise := _, d_l_otherwise := _, F_l_otherwise := fun_mk (st := s_l_otherwise) l_l_otherwise c_l_otherwise k_l_otherwise, g_l_otherwise := PySem.W.mg_of X G a_l_otherwise, f_l_truly := _, d_l_truly := _, F_l_truly := fun_mk (st := s_l_truly) l_l_truly c_l_truly k_l_truly, g_l_truly := PySem.W.mg_of X G a_l_truly, f_l_bars := _, d_l_bars := _, F_l_bars := fun_mk (st := s_l_bars) l_l_bars c_l_bars k_l_bars, g_l_bars := PySem.W.mg_of X G a_l_bars, f_l_are_looks := _, d_l_are_looks := _, F_l_are_looks := fun_mk (st := s_l_are_looks) l_l_are_looks c_l_are_looks k_l_are_looks, g_l_are_looks := PySem.W.mg_of X G a_l_are_looks, f_l_fewest := _, d_l_fewest := _, F_l_fewest := fun_mk (st := s_l_fewest) l_l_fewest c_l_fewest k_l_fewest, g_l_fewest := PySem.W.mg_of X G a_l_fewest, f_law := _, d_law := _, F_law := fun_mk (st := s_law) l_law c_law k_law, g_law := PySem.W.mg_of X G a_law, b_abs := PySem.W.mg_none_of X G z_abs, b_all := PySem.W.mg_none_of X G z_all, b_any := PySem.W.mg_none_of X G z_any, b_bool := PySem.W.mg_none_of X G z_bool, b_enumerate := PySem.W.mg_none_of X G z_enumerate, b_int := PySem.W.mg_none_of X G z_int, b_isinstance := PySem.W.mg_none_of X G z_isinstance, b_len := PySem.W.mg_none_of X G z_len, b_list := PySem.W.mg_none_of X G z_list, b_max := PySem.W.mg_none_of X G z_max, b_min := PySem.W.mg_none_of X G z_min, b_range := PySem.W.mg_none_of X G z_range, b_set := PySem.W.mg_none_of X G z_set, b_str := PySem.W.mg_none_of X G z_str, b_sum := PySem.W.mg_none_of X G z_sum, b_tuple := PySem.W.mg_none_of X G z_tuple, b_zip := PySem.W.mg_none_of X G z_zip }
  exact ⟨T.d_law, fun s v => .of_eq rfl, fun base _ _ => ok_law T hF⟩
end X
namespace X
open PySem PySem.Spec L2 DL DM
theorem mulI1 {a b : Int} (h : a.natAbs < 18446744073709551616) : mulD (.int a) (.int b) = some (.int (a * b)) := by
  show (if midI a = true ∨ midI b = true ∨ a.natAbs.log2 + b.natAbs.log2 < 1000000 then some (PyData.int (a * b)) else none) = _
  rw [if_pos (.inl (decide_eq_true h))]
theorem mulI2 {a b : Int} (h : b.natAbs < 18446744073709551616) : mulD (.int a) (.int b) = some (.int (a * b)) := by
  show (if midI a = true ∨ midI b = true ∨ a.natAbs.log2 + b.natAbs.log2 < 1000000 then some (PyData.int (a * b)) else none) = _
  rw [if_pos (.inr (.inl (decide_eq_true h)))]
theorem fdivI {a b : Int} (h : 0 < b) (h2 : b.natAbs < 1073741824) : fdivD (.int a) (.int b) = some (.int (a / b)) := by
  show (if 0 < b ∧ b.natAbs < 1073741824 then some (PyData.int (a / b)) else none) = _
  rw [if_pos ⟨h, h2⟩]
theorem modI {a b : Int} (h : 0 < b) : modD (.int a) (.int b) = some (.int (a % b)) := by
  rw [ev_modII, if_pos h]
/-- a draw -/
def DrawTo (m : Int) : D → Dr → Prop := fun d c' => ∃ r : Int, d = .int r ∧ 0 ≤ r ∧ r < m ∧ OkDr c'
theorem F_l_draw_eq {m : Int} {c : Dr} (hm : 1 ≤ m) (hm2 : m ≤ 268435456) (hc : OkDr c) : ∃ d c', F_l_draw [.int m] c = some (d, c') ∧ DrawTo m d c' := by
  obtain ⟨h1, h2, h3, h4⟩ := hc
  refine bodyD_of rfl ?_
  unfold S_l_draw
  have hq : (c.1 % m).natAbs < 1073741824 := by
    have := Int.emod_nonneg c.1 (show m ≠ 0 by omega)
    have := Int.emod_lt_of_pos c.1 (show 0 < m by omega)
    omega
  by_cases h : 0 < c.1
  · refine ⟨(.rt (.int (c.1 % m)), [.dr, .im (.int m), .im (.int (c.1 % m)), .un], (c.1 / m, c.2)), ?_, .int (c.1 % m), rfl, c.1 % m, rfl, Int.emod_nonneg _ (by omega), Int.emod_lt_of_pos _ (by omega), ?_⟩
    · refine seq_rt (DL.ifT (c1 := c) ?_ ?_)
      · simp [h]
      · simp [modI (show 0 < m by omega), fdivI (show 0 < m by omega) (show m.natAbs < 1073741824 by omega), show 0 < m by omega]
    · refine ⟨Int.ediv_nonneg (by omega) (by omega), h2, h3, ?_⟩
      have := Int.ediv_le_self m h1
      show c.1 / m < _
      omega
  · refine .pass (c1 := c) (by simp [h]) ?_
    by_cases hm1 : m = 1
    · subst hm1
      refine ⟨(.rt (.int 0), [.dr, .im (.int 1), .im (.int 0), .im (.int 1)], c), ?_, .int 0, rfl, 0, rfl, by omega, by omega, h1, h2, h3, h4⟩
      simp [whileS]
    · have g1 : 1 < m := by omega
      have e1 : mulD (.int c.2) (.int 69621) = some (.int (c.2 * 69621)) := mulI2 (by decide)
      have z1 : 0 ≤ c.2 * 69621 % 2147483647 ∧ c.2 * 69621 % 2147483647 < 2147483647 := by omega
      generalize ez : c.2 * 69621 % 2147483647 = z at z1
      have e2 : mulD (.int z) (.int (z / 128 + 3)) = some (.int (z * (z / 128 + 3))) := mulI1 (by omega)
      have e3 : mulD (.int 0) (.int 268435456) = some (.int 0) := mulI2 (by decide)
      have e4 : mulD (.int 1) (.int 268435456) = some (.int 268435456) := mulI2 (by decide)
      have e5 : ∀ a, fdivD (.int a) (.int 128) = some (.int (a / 128)) := fun a => fdivI (by decide) (by decide)
      have e6 : ∀ a, fdivD (.int a) (.int 8) = some (.int (a / 8)) := fun a => fdivI (by decide) (by decide)
      have g2 : ¬ (268435456 : Int) < m := by omega
      have g3 : (0 : Int) < m := by omega
      refine ⟨(.rt (.int ((z * (z / 128 + 3) % 2147483629 / 8) % m)), [.dr, .im (.int m), .im (.int (z * (z / 128 + 3) % 2147483629 / 8)), .im (.int 268435456)], (c.1, z)), ?_, _, rfl, _, rfl, Int.emod_nonneg _ (by omega), Int.emod_lt_of_pos _ (by omega), h1, z1.1, z1.2, h4⟩
      simp [whileS, g1, g2, g3, e1, e2, e3, e4, e5, e6, ez]
end X
namespace X
open PySem PySem.Spec L2 DL DM
theorem F_l_of_eq {ds : List D} {c : Dr} (h1 : 1 ≤ ds.length) (h2 : ds.length ≤ 1000000) (hc : OkDr c) : ∃ d c', F_l_of [.list ds] c = some (d, c') ∧ d ∈ ds ∧ OkDr c' := by
  obtain ⟨d, c', e, r, rfl, r0, r1, ok⟩ := F_l_draw_eq (m := (ds.length : Int)) (c := c) (by omega) (by omega) hc
  obtain ⟨k, rfl⟩ : ∃ k : Nat, r = k := ⟨r.toNat, by omega⟩
  have hk : k < ds.length := by omega
  refine bodyD_of (P := fun d c' => d ∈ ds ∧ OkDr c') rfl ?_
  unfold S_l_of
  refine ⟨(.rt ds[k], [.dr, .im (.list ds)], c'), ?_, ds[k], rfl, List.getElem_mem hk, ok⟩
  simp [e, atI_nil hk]
theorem ints_of {R : Int → Prop} : ∀ {ds : List D}, (∀ d ∈ ds, ∃ r, d = .int r ∧ R r) → ∃ xs, ds = iL xs ∧ ∀ x ∈ xs, R x
  | [], _ => ⟨[], rfl, fun _ h => by cases h⟩
  | d :: ds, h => by
    obtain ⟨r, rfl, hr⟩ := h d List.mem_cons_self
    obtain ⟨xs, rfl, hx⟩ := ints_of fun e he => h e (List.mem_cons_of_mem _ he)
    refine ⟨r :: xs, rfl, fun x hx' => ?_⟩
    rcases List.mem_cons.mp hx' with z | z
    · rw [z]; exact hr
    · exact hx x z
/-- a drawn row -/
def ARow (P cap : Nat) (d : D) : Prop := ∃ row : List Int, d = .tuple (iL row) ∧ row.length = P ∧ ∀ x ∈ row, 0 ≤ x ∧ x ≤ cap
theorem F_l_row_eq {P cap : Nat} {c : Dr} (hP : P ≤ 1000) (hcap : 1 ≤ cap) (hcap2 : cap ≤ 1000) (hc : OkDr c) : ∃ d c', F_l_row [.int P, .int cap] c = some (d, c') ∧ ARow P cap d ∧ OkDr c' := by
  obtain ⟨d, c1, e1, hd, ok1⟩ := F_l_of_eq (ds := [.int 1, .int cap, .int cap]) (c := c) (by simp) (by simp) hc
  have hd' : ∃ far : Nat, d = .int far ∧ far ≤ cap := by
    simp only [List.mem_cons, List.not_mem_nil, or_false] at hd
    rcases hd with h | h | h
    · exact ⟨1, h, hcap⟩
    · exact ⟨cap, h, Nat.le_refl _⟩
    · exact ⟨cap, h, Nat.le_refl _⟩
  obtain ⟨far, rfl, hfar⟩ := hd'
  have hl := lcS_draw (fun d => ∃ r : Int, d = .int r ∧ 0 ≤ r ∧ r ≤ far) OkDr (tg := qN 5) (e := sCallD F_l_draw 0 (sCons (sOp addD (sV 3) (sC (.int 1))) sNil)) (ρ0 := [.dr, .im (.int P), .im (.int cap), .im (.int far), .un, .un, .un]) (xs := rngL 0 P) (c := c1) ok1 (fun x _ => ⟨_, rfl, fun c hc => by
    obtain ⟨d, c', e, r, rfl, r0, r1, ok⟩ := F_l_draw_eq (m := (far : Int) + 1) (c := c) (by omega) (by omega) hc
    exact ⟨_, c', by simp [e], ⟨r, rfl, r0, by omega⟩, ok⟩⟩)
  obtain ⟨ds, c2, e2, hl, hG, ok2⟩ := hl
  obtain ⟨xs, rfl, hx⟩ := ints_of hG
  rw [iL_len, rngL_len] at hl
  obtain ⟨d3, c3, e3, q, rfl, q0, q1, ok3⟩ := F_l_draw_eq (m := 4) (c := c2) (by omega) (by omega) ok2
  refine bodyD_of (P := fun d c' => ARow P cap d ∧ OkDr c') rfl ?_
  unfold S_l_row
  have oP : okR (P : Int) = true := okR_of (by omega) (by omega)
  have fP : few P = true := few_of (by omega)
  have f3 : few 3 = true := by decide
  refine .seq (ρ1 := [.dr, .im (.int P), .im (.int cap), .im (.int far), .un, .un, .un]) (c1 := c1) (by simp [e1, f3]) ?_
  refine .seq (ρ1 := [.dr, .im (.int P), .im (.int cap), .im (.int far), .im (.list (iL xs)), .un, .un]) (c1 := c2) (by simp [oP, rngL_len, fP, e2]) ?_
  have eq4 : eqD (.int q) (.int 0) = some (.bool (decide (q = 0))) := eqD_int
  by_cases hq : q = 0
  · subst hq
    refine .seq (ρ1 := [.dr, .im (.int P), .im (.int cap), .im (.int far), .im (.list (iL (xs.map fun x => (cap : Int) - x))), .un, .un]) (c1 := c3) ?_ ?_
    · refine DL.ifT (c1 := c3) (by simp [e3, eq4]) ?_
      have em := lcS_map (tg := qN 6) (e := sOp subD (sV 2) (sV 6)) (ρ0 := [.dr, .im (.int P), .im (.int cap), .im (.int far), .im (.list (iL xs)), .un, .un]) (xs := iL xs) (c := c3) (fun d => match d with | .int i => .int ((cap : Int) - i) | d => d) (fun x hx => by
        obtain ⟨i, _, rfl⟩ := List.mem_map.mp hx
        exact ⟨_, rfl, by simp⟩)
      have e5 : (iL xs).map (fun d => match d with | .int i => PyData.int ((cap : Int) - i) | d => d) = iL (xs.map fun x => (cap : Int) - x) := by
        unfold iL; rw [List.map_map, List.map_map]; rfl
      rw [e5] at em
      simp [hl, fP, em]
    · refine .ret (d := .tuple (iL (xs.map fun x => (cap : Int) - x))) (c1 := c3) (by simp) ⟨_, rfl, ⟨_, rfl, by rw [List.length_map]; exact hl, fun y hy => ?_⟩, ok3⟩
      obtain ⟨x, hx', rfl⟩ := List.mem_map.mp hy
      have := hx x hx'
      omega
  · refine .seq (ρ1 := [.dr, .im (.int P), .im (.int cap), .im (.int far), .im (.list (iL xs)), .un, .un]) (c1 := c3) (DL.ifF (c1 := c3) (by simp [e3, eq4, hq]) rfl) ?_
    refine .ret (d := .tuple (iL xs)) (c1 := c3) (by simp) ⟨_, rfl, ⟨_, rfl, hl, fun y hy => ?_⟩, ok3⟩
    have := hx y hy
    omega
end X
namespace X
open PySem PySem.Spec L2 DL DM
theorem gI_mem {xs : List Int} {i : Nat} (h : i < xs.length) : gI xs i ∈ xs := by
  unfold gI
  simp [List.getD, h]
theorem ixN_nat {n k : Nat} (h : k < n) : ixN n (k : Int) = some k := by
  unfold ixN
  rw [if_pos (by omega), if_pos (by omega)]
  rw [Int.toNat_natCast]
theorem F_l_counts_eq {f : Nat} {row : List Int} (hf : 1 ≤ f) (hP : f ≤ row.length) (h3 : row.length ≤ 1000) : F_l_counts [.tuple (iL row), .int f] = some (.tuple (iL (csL f row))) := by
  refine bodyP_of rfl ?_
  unfold S_l_counts
  refine .seq (ρ1 := [.im (.tuple (iL row)), .im (.int f), .ol [], .un, .un, .un]) (c1 := (0, 0)) (by simp [few]) ?_
  refine .seq (for_run (c1 := (0, 0)) (xs := rngL 0 (row.length - f + 1)) (st := fun i => [.im (.tuple (iL row)), .im (.int f), .ol (iL ((List.range i).map (cnt f (gI row)))), .un, .un, .un]) ?_ rfl fun i x hx => ?_) ?_
  · have e1 : okR ((row.length : Int) - f + 1) = true := okR_of (by omega) (by omega)
    have e2 : ((row.length : Int) - f + 1).toNat = row.length - f + 1 := by omega
    simp [e1, e2]
  · obtain ⟨hi, rfl⟩ := rngL_lt hx
    refine ⟨_, rfl, then_run (ρ1 := [.im (.tuple (iL row)), .im (.int f), .ol (iL ((List.range (i + 1)).map (cnt f (gI row)))), .im (.int (0 + i)), .im (.int (cnt f (gI row) i)), .un]) ?_ rfl⟩
    refine seq_run (ρ1 := [.im (.tuple (iL row)), .im (.int f), .ol (iL ((List.range i).map (cnt f (gI row)))), .im (.int (0 + i)), .im (.int 0), .un]) (c1 := (0, 0)) (by simp) ?_
    refine seq_run (for_run (c1 := (0, 0)) (xs := rngL (i : Int) f) (st := fun j => [.im (.tuple (iL row)), .im (.int f), .ol (iL ((List.range i).map (cnt f (gI row)))), .im (.int (0 + i)), .im (.int (sumN j fun j => gI row (i + j))), .un]) ?_ rfl fun j y hy => ?_) ?_
    · have e1 : okR (i : Int) = true := okR_of (by omega) (by omega)
      have e2 : okR ((i : Int) + f) = true := okR_of (by omega) (by omega)
      have e3 : ((i : Int) + f - i).toNat = f := by omega
      simp [e1, e2, e3]
    · obtain ⟨hj, rfl⟩ := rngL_lt hy
      refine ⟨_, rfl, then_run (ρ1 := [.im (.tuple (iL row)), .im (.int f), .ol (iL ((List.range i).map (cnt f (gI row)))), .im (.int (0 + i)), .im (.int (sumN (j + 1) fun j => gI row (i + j))), .im (.int (i + j))]) ?_ rfl⟩
      have e1 : atI (iL row) ((i : Int) + j) = some (.int (gI row (i + j))) := atI_iL (j := i + j) (by omega)
      simp [e1]
      rfl
    · rw [rngL_len]
      have e1 : few i = true := few_of (by omega)
      have e2 : iL ((List.range (i + 1)).map (cnt f (gI row))) = iL ((List.range i).map (cnt f (gI row))) ++ [.int (cnt f (gI row) i)] := by rw [List.range_succ, List.map_append, iL_app]; rfl
      rw [e2]
      simp [e1]
      rfl
  · rw [rngL_len]
    exact .frz rfl (.ret (d := .tuple (iL (csL f row))) (c1 := (0, 0)) (by simp; rfl) rfl)
/-- told counts, true or not -/
def ACnt (n m : Nat) (d : D) : Prop := ∃ cs : List Int, d = .tuple (iL cs) ∧ cs.length = n ∧ ∀ x ∈ cs, 0 ≤ x ∧ x ≤ m
theorem cnt_bd {f cap s : Nat} {r : Nat → Int} (h : ∀ j, j < f → 0 ≤ r (s + j) ∧ r (s + j) ≤ cap) : 0 ≤ cnt f r s ∧ cnt f r s ≤ ((f * cap : Nat) : Int) := by
  unfold cnt
  have h1 := sumN_le (g := fun _ => (0 : Int)) (h := fun j => r (s + j)) (n := f) fun i hi => (h i hi).1
  have h2 := sumN_le (g := fun j => r (s + j)) (h := fun _ => (cap : Int)) (n := f) fun i hi => (h i hi).2
  rw [sumN_const] at h1 h2
  rw [Int.natCast_mul]
  omega
theorem csL_bd {f cap : Nat} {row : List Int} (hP : f ≤ row.length) (h : ∀ x ∈ row, 0 ≤ x ∧ x ≤ cap) : ∀ x ∈ csL f row, 0 ≤ x ∧ x ≤ ((f * cap : Nat) : Int) := by
  intro x hx
  obtain ⟨s, hs, rfl⟩ := List.mem_map.mp hx
  have hs := List.mem_range.mp hs
  exact cnt_bd fun j hj => h _ (gI_mem (by omega))
theorem F_l_told_counts_eq {P cap f : Nat} {c : Dr} (hf : 1 ≤ f) (hP : f ≤ P) (h3 : P ≤ 1000) (hcap : 1 ≤ cap) (hcap2 : cap ≤ 1000) (hf2 : f ≤ 1000) (hc : OkDr c) : ∃ d c', F_l_told_counts [.int P, .int cap, .int f] c = some (d, c') ∧ ACnt (P - f + 1) (f * cap) d ∧ OkDr c' := by
  obtain ⟨d, c1, e1, ⟨row, rfl, hl, hb⟩, ok1⟩ := F_l_row_eq (c := c) h3 hcap hcap2 hc
  have e2 := F_l_counts_eq (f := f) (row := row) hf (by omega) (by omega)
  obtain ⟨d5, c2, e3, q, rfl, q0, q1, ok2⟩ := F_l_draw_eq (m := 5) (c := c1) (by omega) (by omega) ok1
  obtain ⟨q, rfl⟩ : ∃ k : Nat, q = k := ⟨q.toNat, by omega⟩
  have hq : q < 5 := by omega
  have e4 : ∃ n : Nat, n ≤ 9 ∧ atI [PyData.int 0, .int 0, .int 1, .int 2, .int 9] (q : Int) = some (.int n) := by
    match q, hq with
    | 0, _ => exact ⟨0, by decide, rfl⟩
    | 1, _ => exact ⟨0, by decide, rfl⟩
    | 2, _ => exact ⟨1, by decide, rfl⟩
    | 3, _ => exact ⟨2, by decide, rfl⟩
    | 4, _ => exact ⟨9, by decide, rfl⟩
  obtain ⟨n, hn, e4⟩ := e4
  have oN : okR (n : Int) = true := okR_of (by omega) (by omega)
  have f5 : few 5 = true := by decide
  have f3 : few 3 = true := by decide
  have hm : f * cap ≤ 1000000 := Nat.le_trans (Nat.mul_le_mul hf2 hcap2) (by decide)
  have em : mulD (.int f) (.int cap) = some (.int ((f * cap : Nat) : Int)) := by rw [mulI1 (by omega), Int.natCast_mul]
  have hcl : (csL f row).length = P - f + 1 := by rw [csL_len, hl]
  refine bodyD_of (P := fun d c' => ACnt (P - f + 1) (f * cap) d ∧ OkDr c') rfl ?_
  unfold S_l_told_counts
  refine .seq (ρ1 := [.dr, .im (.int P), .im (.int cap), .im (.int f), .ol (iL (csL f row)), .un, .un]) (c1 := c1) (by simp [e1, e2]) ?_
  refine .seq' (Q := fun ρ c => ∃ xs : List Int, ρ = [.dr, .im (.int P), .im (.int cap), .im (.int f), .ol (iL xs), .un, .un] ∧ xs.length = P - f + 1 ∧ (∀ x ∈ xs, 0 ≤ x ∧ x ≤ ((f * cap : Nat) : Int)) ∧ OkDr c) (for_inv (xs := rngL 0 n) (c1 := c2) (fun _ ρ c => ∃ xs : List Int, ρ = [.dr, .im (.int P), .im (.int cap), .im (.int f), .ol (iL xs), .un, .un] ∧ xs.length = P - f + 1 ∧ (∀ x ∈ xs, 0 ≤ x ∧ x ≤ ((f * cap : Nat) : Int)) ∧ OkDr c) (by simp [f5, e3, e4, oN]) ⟨_, rfl, hcl, csL_bd (by omega) (by rw [← hl] at *; exact hb), ok2⟩ fun i x ρ c hx hI => ?_) fun ρ1 c1 hI => ?_
  · obtain ⟨hi, rfl⟩ := rngL_lt hx
    obtain ⟨xs, rfl, hxl, hxb, hc⟩ := hI
    obtain ⟨d1, c3, g1, a, rfl, a0, a1, ok3⟩ := F_l_draw_eq (m := (xs.length : Int)) (c := c) (by omega) (by omega) hc
    obtain ⟨a, rfl⟩ : ∃ k : Nat, a = k := ⟨a.toNat, by omega⟩
    have ha : a < xs.length := by omega
    obtain ⟨d2, c4, g2, o, rfl, o0, o1, ok4⟩ := F_l_draw_eq (m := ((f * cap : Nat) : Int) + 1) (c := c3) (by omega) (by omega) ok3
    have hxa := hxb _ (gI_mem ha)
    obtain ⟨d3, c5, g3, hd, ok5⟩ := F_l_of_eq (ds := [.int o, .int (min ((f * cap : Nat) : Int) (gI xs a + 1)), .int (max 0 (gI xs a - 1))]) (c := c4) (by simp) (by simp) ok4
    have hd' : ∃ z : Int, d3 = .int z ∧ 0 ≤ z ∧ z ≤ ((f * cap : Nat) : Int) := by
      simp only [List.mem_cons, List.not_mem_nil, or_false] at hd
      rcases hd with h | h | h
      · exact ⟨_, h, by omega, by omega⟩
      · exact ⟨_, h, by omega, by omega⟩
      · exact ⟨_, h, by omega, by omega⟩
    obtain ⟨z, rfl, z0, z1⟩ := hd'
    refine ⟨_, [.dr, .im (.int P), .im (.int cap), .im (.int f), .ol (iL (xs.set a z)), .un, .un], c5, rfl, then_run (ρ1 := [.dr, .im (.int P), .im (.int cap), .im (.int f), .ol (iL (xs.set a z)), .im (.int (0 + i)), .im (.int a)]) ?_ rfl, _, rfl, by rw [List.length_set]; exact hxl, fun y hy => ?_, ok5⟩
    · have e5 : (iL xs).set a (.int z) = iL (xs.set a z) := by unfold iL; rw [List.map_set]
      simp only [Int.natCast_mul] at g2 g3 em
      simp [flatD, g1, em, g2, atI_iL ha, f3, g3, ixN_nat ha, e5]
    · rcases List.mem_or_eq_of_mem_set hy with w | w
      · exact hxb y w
      · rw [w]; exact ⟨z0, z1⟩
  · obtain ⟨xs, rfl, hxl, hxb, hc⟩ := hI
    exact .frz rfl (.ret (d := .tuple (iL xs)) (c1 := c1) (by simp) ⟨_, rfl, ⟨xs, rfl, hxl, hxb⟩, hc⟩)
/-- a row out of its first frame -/
def GL (P f : Nat) (cs fs : List Int) : List Int := (List.range P).map fun p => gI fs (p % f) + Rf f (gI cs) p
theorem GL_len {P f : Nat} {cs fs : List Int} : (GL P f cs fs).length = P := by unfold GL; simp
theorem GL_get {P f p : Nat} {cs fs : List Int} (h : p < P) : gI (GL P f cs fs) p = gI fs (p % f) + Rf f (gI cs) p := by
  unfold GL gI
  simp [List.getD, h]
theorem GL_first {f : Nat} {cs fs : List Int} (hl : fs.length = f) : GL f f cs fs = fs := by
  unfold GL
  apply List.ext_getElem
  · simp [hl]
  · intro i h1 h2
    simp at h1
    simp [gI, Nat.mod_eq_of_lt h1, Rf_zero h1, h2]
theorem GL_zero {P f : Nat} {cs : List Int} : GL P f cs (List.replicate f 0) = RL f cs P := by
  unfold GL RL
  refine List.map_congr_left fun p _ => ?_
  have : gI (List.replicate f 0) (p % f) = 0 := by
    unfold gI
    simp [List.getD, List.getElem?_replicate]
    split <;> rfl
  omega
theorem F_rises_eq {P f : Nat} {cs : List Int} (hf : 1 ≤ f) (hP : f ≤ P) (h24 : P ≤ 1000) (hc : cs.length = P - f + 1) : F_rises [.int P, .int f, .tuple (iL cs)] = some (.list (iL (RL f cs P))) := by
  refine bodyP_of rfl ?_
  unfold S_rises
  refine .seq (ρ1 := [.im (.int P), .im (.int f), .im (.tuple (iL cs)), .ol (iL (RL f cs f)), .un, .un]) (c1 := (0, 0)) ?_ ?_
  · have e : iL (RL f cs f) = List.replicate f (.int 0) := by rw [RL_zero]; unfold iL; simp
    have b1 : f ≤ 1000000 := by omega
    have b2 : (f : Int) ≤ 1000000 := by omega
    simp [few, e, b1, b2]
  refine .seq (for_run (c1 := (0, 0)) (xs := rngL f (P - f)) (st := fun i => [.im (.int P), .im (.int f), .im (.tuple (iL cs)), .ol (iL (RL f cs (f + i))), .un, .un]) ?_ rfl fun i x hx => ?_) ?_
  · have e1 : okR (f : Int) = true := okR_of (by omega) (by omega)
    have e2 : okR (P : Int) = true := okR_of (by omega) (by omega)
    have e3 : ((P : Int) - (f : Int)).toNat = P - f := by omega
    simp [e1, e2, e3]
  · obtain ⟨hi, rfl⟩ := rngL_lt hx
    refine ⟨_, rfl, then_run (ρ1 := [.im (.int P), .im (.int f), .im (.tuple (iL cs)), .ol (iL (RL f cs (f + i + 1))), .im (.int (f + i)), .im (.int i)]) ?_ rfl⟩
    have e0 : ((f : Int) + i - f) = (i : Int) := by omega
    have e1 : atI (iL (RL f cs (f + i))) (i : Int) = some (.int (Rf f (gI cs) i)) := by rw [atI_iL (by rw [RL_len]; omega), RL_get (by omega)]
    have e2 : atI (iL cs) ((i : Int) + 1) = some (.int (gI cs (i + 1))) := atI_iL (j := i + 1) (by omega)
    have e3 : atI (iL cs) (i : Int) = some (.int (gI cs i)) := atI_iL (by omega)
    have e4 : iL (RL f cs (f + i + 1)) = iL (RL f cs (f + i)) ++ [.int (Rf f (gI cs) i + gI cs (i + 1) - gI cs i)] := by rw [RL_succ, iL_app, Rf_step hf]; rfl
    have e5 : few (f + i) = true := few_of (by omega)
    simp [e0, e1, e2, e3, e4, e5, RL_len]
  · rw [rngL_len, show f + (P - f) = P by omega]
    exact .frz rfl (.ret rfl rfl)
end X
namespace X
open PySem PySem.Spec L2 DL DM
@[simp] theorem ev_sDPutS {ρ : Rho} {c : Dr} {i : Nat} {k v : SE} : sDPutS i k v ρ c = (match ρ[i]? with
  | some (.od kvs) => ((v ρ c).bind fun p => (k ρ p.2).bind fun q => (match q.1 with
    | .int j => if few kvs.length = true then some (.nx, ρ.set i (.od (kvPut kvs j p.1)), q.2) else none
    | _ => none))
  | _ => none) := Eq.trans rfl rfl
@[simp] theorem ev_sDNew {ρ : Rho} {c : Dr} {i : Nat} : sDNew i ρ c = some (.nx, ρ.set i (.od []), c) := rfl
@[simp] theorem ev_sDNew1 {ρ : Rho} {c : Dr} {i : Nat} {k v : Int} : sDNew1 i k v ρ c = some (.nx, ρ.set i (.od [(k, .int v)]), c) := rfl
@[simp] theorem ev_sMove {ρ : Rho} {c : Dr} {i j : Nat} : sMove j i ρ c = if i = j then none else (match ρ[i]? with
  | some s => if owns s = true then some (.nx, (ρ.set i .un).set j s, c) else none
  | none => none) := Eq.trans rfl rfl
@[simp] theorem ev_sDIx {ρ : Rho} {c : Dr} {i : Nat} {k : SE} : sDIx i k ρ c = (dictAt ρ[i]?).bind fun kvs => (k ρ c).bind fun p => (match p.1 with
  | .int j => (kvLook kvs j).bind fun d => some (d, p.2)
  | _ => none) := Eq.trans rfl rfl
@[simp] theorem ev_dictO {kvs : List (Int × D)} : dictAt (some (.od kvs)) = some kvs := rfl
@[simp] theorem ev_dictF {kvs : List (Int × D)} : dictAt (some (.fd kvs)) = some kvs := rfl
@[simp] theorem ev_ownO {kvs : List (Int × D)} : owns (.od kvs) = true := rfl
@[simp] theorem ev_ownL {xs : List D} : owns (.ol xs) = true := rfl
@[simp] theorem kvLook_t {t : Tab} {k : Int} : (kvLook (tabD t) k).getD (.int 0) = .int (tlook t k) := kvLook_tab
@[simp] theorem kvPut_t {t : Tab} {k v : Int} : kvPut (tabD t) k (.int v) = tabD (tput t k v) := kvPut_tab
@[simp] theorem tabD_l {t : Tab} : (tabD t).length = t.length := tabD_len
/-- spans as data -/
def spT (s : Int × Int) : D := .tuple [.int s.1, .int s.2]
def spO (s : Int × Int) : D := if s.1 ≤ s.2 then spT s else .none
theorem spT_get {ss : List (Int × Int)} {i : Nat} {x : D} (h : (ss.map spT)[i]? = some x) : ∃ s, ss[i]? = some s ∧ x = .tuple [.int s.1, .int s.2] := by
  rw [List.getElem?_map] at h
  obtain ⟨s, e1, e2⟩ := Option.map_eq_some_iff.mp h
  exact ⟨s, e1, e2.symm⟩
end X
namespace X
open PySem PySem.Spec L2 DL DM
theorem minS_iL {xs : List Int} (h : xs ≠ []) : minS [.list (iL xs)] = some (.int (minL xs)) := by
  show (intsD (iL xs)).bind _ = _
  unfold iL
  rw [intsD_map]
  show (if xs = [] then none else some (PyData.int (minL xs))) = _
  rw [if_neg h]
theorem maxS_iL {xs : List Int} (h : xs ≠ []) : maxS [.list (iL xs)] = some (.int (maxL xs)) := by
  show (intsD (iL xs)).bind _ = _
  unfold iL
  rw [intsD_map]
  show (if xs = [] then none else some (PyData.int (maxL xs))) = _
  rw [if_neg h]
theorem sumA_iL {xs : List Int} : sumA [.list (iL xs)] = some (.int xs.sum) := by
  show (intsD (iL xs)).map _ = _
  unfold iL
  rw [intsD_map]
  rfl
/-- the span of a thread -/
def spA (P cap f : Nat) (cs : List Int) (t : Nat) : Int × Int := (loS f (gI cs) P t, hiS (cap : Int) f (gI cs) P t)
theorem SPL_map {P cap f : Nat} {cs : List Int} : SPL (cap : Int) f (gI cs) P = (List.range f).map (spA P cap f cs) := rfl
/-- what a telling must be -/
structure Ask (P cap f : Nat) (cs : List Int) : Prop where
  f1 : 1 ≤ f
  fP : f ≤ P
  P24 : P ≤ 24
  c9 : cap ≤ 9
  len : cs.length = P - f + 1
  cb : CB cs
section
variable {P cap f : Nat} {cs : List Int}
theorem Ask.nar (h : Ask P cap f cs) : Nar 10 (SPL (cap : Int) f (gI cs) P) := SPL_nar h.f1 h.fP h.P24 h.c9 h.cb
theorem Ask.spl_len : (SPL (cap : Int) f (gI cs) P).length = f := by unfold SPL; simp
theorem ups_len (h : Ask P cap f cs) {t : Nat} : (ups f (gI cs) P t).length ≤ 1000000 := by
  unfold ups Pl
  simp
  have := Nat.div_le_self (P - t - 1) f
  have := h.P24
  omega
theorem F_ranges_eq (h : Ask P cap f cs) : F_ranges [.int P, .int cap, .int f, .tuple (iL cs)] = some (.list ((SPL (cap : Int) f (gI cs) P).map spO)) := by
  obtain ⟨hf, hP, h24, hc9, hl, hcb⟩ := id h
  refine bodyP_of rfl ?_
  unfold S_ranges
  refine .seq (ρ1 := [.im (.int P), .im (.int cap), .im (.int f), .im (.tuple (iL cs)), .im (.list (iL (RL f cs P))), .ol [], .un, .un, .un, .un]) (c1 := (0, 0)) (by simp [F_rises_eq hf hP (by omega) hl, few]) ?_
  refine .seq (for_run (c1 := (0, 0)) (xs := rngL 0 f) (st := fun i => [.im (.int P), .im (.int cap), .im (.int f), .im (.tuple (iL cs)), .im (.list (iL (RL f cs P))), .ol ((List.range i).map fun t => spO (spA P cap f cs t)), .un, .un, .un, .un]) ?_ rfl fun i x hx => ?_) ?_
  · have e1 : okR (f : Int) = true := okR_of (by omega) (by omega)
    simp [e1]
  · obtain ⟨hi, rfl⟩ := rngL_lt hx
    refine ⟨_, rfl, then_run (ρ1 := [.im (.int P), .im (.int cap), .im (.int f), .im (.tuple (iL cs)), .im (.list (iL (RL f cs P))), .ol ((List.range (i + 1)).map fun t => spO (spA P cap f cs t)), .im (.int (0 + i)), .im (.list (iL (ups f (gI cs) P i))), .im (.int (loS f (gI cs) P i)), .im (.int (hiS (cap : Int) f (gI cs) P i))]) ?_ rfl⟩
    have e1 := pick_Pl (c := gI cs) (cs := cs) hf hP hi
    have e2 : few (ups f (gI cs) P i).length = true := few_of (ups_len h)
    have e3 := minS_iL (ups_ne (f := f) (c := gI cs) (P := P) (t := i))
    have e4 := maxS_iL (ups_ne (f := f) (c := gI cs) (P := P) (t := i))
    have e5 : few i = true := few_of (by omega)
    have e6 : (0 : Int) - minL (ups f (gI cs) P i) = loS f (gI cs) P i := rfl
    have e7 : (cap : Int) - maxL (ups f (gI cs) P i) = hiS (cap : Int) f (gI cs) P i := rfl
    have e8 : few 2 = true := by decide
    have e9 : f ≠ 0 := by omega
    have e10 : (List.range (i + 1)).map (fun t => spO (spA P cap f cs t)) = (List.range i).map (fun t => spO (spA P cap f cs t)) ++ [spO (spA P cap f cs i)] := by rw [List.range_succ, List.map_append]; rfl
    rw [e10]
    by_cases hle : loS f (gI cs) P i ≤ hiS (cap : Int) f (gI cs) P i
    · have e11 : spO (spA P cap f cs i) = .tuple [.int (loS f (gI cs) P i), .int (hiS (cap : Int) f (gI cs) P i)] := if_pos hle
      rw [e11]
      refine seq_run (ρ1 := [.im (.int P), .im (.int cap), .im (.int f), .im (.tuple (iL cs)), .im (.list (iL (RL f cs P))), .ol ((List.range i).map fun t => spO (spA P cap f cs t)), .im (.int (0 + i)), .im (.list (iL (ups f (gI cs) P i))), .un, .un]) (c1 := (0, 0)) (by simp [e1, e2, e9]) ?_
      refine seq_run (ρ1 := [.im (.int P), .im (.int cap), .im (.int f), .im (.tuple (iL cs)), .im (.list (iL (RL f cs P))), .ol ((List.range i).map fun t => spO (spA P cap f cs t)), .im (.int (0 + i)), .im (.list (iL (ups f (gI cs) P i))), .im (.int (loS f (gI cs) P i)), .im (.int (hiS (cap : Int) f (gI cs) P i))]) (c1 := (0, 0)) ?_ ?_
      · rw [← e6, ← e7]
        simp [e3, e4]
      · simp [hle, e5, e8]
    · have e11 : spO (spA P cap f cs i) = .none := if_neg hle
      rw [e11]
      refine seq_run (ρ1 := [.im (.int P), .im (.int cap), .im (.int f), .im (.tuple (iL cs)), .im (.list (iL (RL f cs P))), .ol ((List.range i).map fun t => spO (spA P cap f cs t)), .im (.int (0 + i)), .im (.list (iL (ups f (gI cs) P i))), .un, .un]) (c1 := (0, 0)) (by simp [e1, e2, e9]) ?_
      refine seq_run (ρ1 := [.im (.int P), .im (.int cap), .im (.int f), .im (.tuple (iL cs)), .im (.list (iL (RL f cs P))), .ol ((List.range i).map fun t => spO (spA P cap f cs t)), .im (.int (0 + i)), .im (.list (iL (ups f (gI cs) P i))), .im (.int (loS f (gI cs) P i)), .im (.int (hiS (cap : Int) f (gI cs) P i))]) (c1 := (0, 0)) ?_ ?_
      · rw [← e6, ← e7]
        simp [e3, e4]
      · simp [hle, e5]
  · rw [rngL_len]
    refine .frz rfl (.ret (d := .list ((SPL (cap : Int) f (gI cs) P).map spO)) (c1 := (0, 0)) ?_ rfl)
    rw [SPL_map, List.map_map]
    rfl
theorem pln_spO {s : Int × Int} : Pln 1 (spO s) := by
  unfold spO
  split
  · exact .tuple fun d hd => by
      rcases List.mem_cons.mp hd with z | z
      · rw [z]; exact pln_int
      · rw [List.mem_singleton.mp z]; exact pln_int
  · exact pln_none
theorem inD_none {ss : List (Int × Int)} : inD .none (.list (ss.map spO)) = some (.bool (decide (¬ ∀ s ∈ ss, s.1 ≤ s.2))) := by
  refine inD_b (n := 1) (pln_none (n := 2)) (fun e he => by obtain ⟨s, _, rfl⟩ := List.mem_map.mp he; exact pln_spO) (by decide) ?_
  rw [decide_eq_true_eq]
  constructor
  · intro h
    have ⟨s, hs⟩ := Classical.not_forall.mp h
    have ⟨h1, h2⟩ := Classical.not_imp.mp hs
    exact List.mem_map.mpr ⟨s, h1, if_neg h2⟩
  · intro h z
    obtain ⟨s, hs, e⟩ := List.mem_map.mp h
    unfold spO at e
    rw [if_pos (z s hs)] at e
    cases e
theorem spO_ok {ss : List (Int × Int)} (h : ∀ s ∈ ss, s.1 ≤ s.2) : ss.map spO = ss.map spT := List.map_congr_left fun s hs => if_pos (h s hs)
theorem c0_at (h : Ask P cap f cs) : atI (iL cs) 0 = some (.int (gI cs 0)) := atI_iL (j := 0) (by have := h.len; omega)
end
end X
namespace X
open PySem PySem.Spec L2 DL DM
section
variable {P cap f : Nat} {cs : List Int}
/-- the ends of what a first may be -/
def tgD (w L H : Int) (s : Int × Int) : D := .tuple [.int (max s.1 (w - H + s.2)), .int (min s.2 (w - L + s.1))]
def tgL (P cap f : Nat) (cs : List Int) : List D := (SPL (cap : Int) f (gI cs) P).map (tgD (gI cs 0) (sumLo (SPL (cap : Int) f (gI cs) P)) (sumHi (SPL (cap : Int) f (gI cs) P)))
theorem spT_mem {ss : List (Int × Int)} {x : D} (h : x ∈ ss.map spT) : ∃ s ∈ ss, x = .tuple [.int s.1, .int s.2] := by
  obtain ⟨s, hs, e⟩ := List.mem_map.mp h
  exact ⟨s, hs, e.symm⟩
def fstD : D → D
  | .tuple [a, _] => a
  | d => d
def sndD : D → D
  | .tuple [_, b] => b
  | d => d
theorem fst_map {ss : List (Int × Int)} : (ss.map spT).map fstD = iL (ss.map (·.1)) := by unfold iL; rw [List.map_map, List.map_map]; rfl
theorem snd_map {ss : List (Int × Int)} : (ss.map spT).map sndD = iL (ss.map (·.2)) := by unfold iL; rw [List.map_map, List.map_map]; rfl
theorem F_tight_eq (h : Ask P cap f cs) : F_tight [.int P, .int cap, .int f, .tuple (iL cs)] = some (if 0 < fitV P cap f (gI cs) then .list (tgL P cap f cs) else .none) := by
  refine bodyP_of rfl ?_
  unfold S_tight
  have hpos := fitV_pos (P := P) (f := f) (cap := (cap : Int)) (c := gI cs)
  have hlen := Ask.spl_len (P := P) (cap := cap) (f := f) (cs := cs)
  have h24 := h.P24
  have hfP := h.fP
  unfold tgL
  rw [okS_iff, ← sumLo_SPL, ← sumHi_SPL] at hpos
  refine .seq (ρ1 := [.im (.int P), .im (.int cap), .im (.int f), .im (.tuple (iL cs)), .im (.list ((SPL (cap : Int) f (gI cs) P).map spO)), .un, .un, .un, .un]) (c1 := (0, 0)) (by simp [F_ranges_eq h]) ?_
  generalize SPL (cap : Int) f (gI cs) P = ss at *
  have e := inD_none (ss := ss)
  by_cases hs : ∀ s ∈ ss, s.1 ≤ s.2
  · rw [decide_eq_false (fun z => z hs)] at e
    rw [spO_ok hs] at e ⊢
    refine .pass (c1 := (0, 0)) (by simp [e]) ?_
    have fl : few ss.length = true := few_of (by omega)
    have ea := lcS_map (tg := qN 8) (e := sOp ixD (sV 8) (sC (.int 0))) (ρ0 := [.im (.int P), .im (.int cap), .im (.int f), .im (.tuple (iL cs)), .im (.list (ss.map spT)), .un, .un, .un, .un]) (xs := ss.map spT) (c := (0, 0)) fstD (fun x hx => by
      obtain ⟨s, _, rfl⟩ := spT_mem hx
      exact ⟨_, rfl, by simp [atI_nat (xs := [PyData.int s.1, PyData.int s.2]) (j := 0) rfl]; rfl⟩)
    have eb := lcS_map (tg := qN 8) (e := sOp ixD (sV 8) (sC (.int 1))) (ρ0 := [.im (.int P), .im (.int cap), .im (.int f), .im (.tuple (iL cs)), .im (.list (ss.map spT)), .un, .un, .un, .un]) (xs := ss.map spT) (c := (0, 0)) sndD (fun x hx => by
      obtain ⟨s, _, rfl⟩ := spT_mem hx
      exact ⟨_, rfl, by simp [atI_nat (xs := [PyData.int s.1, PyData.int s.2]) (j := 1) rfl]; rfl⟩)
    rw [fst_map] at ea
    rw [snd_map] at eb
    refine .seq (ρ1 := [.im (.int P), .im (.int cap), .im (.int f), .im (.tuple (iL cs)), .im (.list (ss.map spT)), .im (.int (sumLo ss)), .im (.int (sumHi ss)), .un, .un]) (c1 := (0, 0)) (by simp [fl, ea, eb, sumA_iL]; exact ⟨rfl, rfl⟩) ?_
    refine .seq (ρ1 := [.im (.int P), .im (.int cap), .im (.int f), .im (.tuple (iL cs)), .im (.list (ss.map spT)), .im (.int (sumLo ss)), .im (.int (sumHi ss)), .im (.int (gI cs 0)), .un]) (c1 := (0, 0)) (by simp [c0_at h]) ?_
    by_cases hw : sumLo ss ≤ gI cs 0 ∧ gI cs 0 ≤ sumHi ss
    · have hp : 0 < fitV P cap f (gI cs) := hpos.mpr ⟨hs, hw.1, hw.2⟩
      rw [if_pos hp]
      refine .pass (c1 := (0, 0)) (by simp [hw.1, hw.2]) ?_
      have f2 : few 2 = true := by decide
      have ec := lcS_map (tg := qN 8) (e := (sTup (sCons (sCB maxS (sCons (sOp ixD (sV 8) (sC (.int 0))) (sCons (sOp addD (sOp subD (sV 7) (sV 6)) (sOp ixD (sV 8) (sC (.int 1)))) sNil))) (sCons (sCB minS (sCons (sOp ixD (sV 8) (sC (.int 1))) (sCons (sOp addD (sOp subD (sV 7) (sV 5)) (sOp ixD (sV 8) (sC (.int 0)))) sNil))) sNil)))) (ρ0 := [.im (.int P), .im (.int cap), .im (.int f), .im (.tuple (iL cs)), .im (.list (ss.map spT)), .im (.int (sumLo ss)), .im (.int (sumHi ss)), .im (.int (gI cs 0)), .un]) (xs := ss.map spT) (c := (0, 0)) (fun d => match d with | .tuple [.int a, .int b] => tgD (gI cs 0) (sumLo ss) (sumHi ss) (a, b) | d => d) (fun x hx => by
        obtain ⟨s, _, rfl⟩ := spT_mem hx
        exact ⟨_, rfl, by simp [atI_nat (xs := [PyData.int s.1, PyData.int s.2]) (j := 0) rfl, atI_nat (xs := [PyData.int s.1, PyData.int s.2]) (j := 1) rfl, f2, show atI [PyData.int s.1, PyData.int s.2] 0 = some (.int s.1) from rfl, show atI [PyData.int s.1, PyData.int s.2] 1 = some (.int s.2) from rfl]; rfl⟩)
      have ed : (ss.map spT).map (fun d => match d with | .tuple [.int a, .int b] => tgD (gI cs 0) (sumLo ss) (sumHi ss) (a, b) | d => d) = ss.map (tgD (gI cs 0) (sumLo ss) (sumHi ss)) := by
        rw [List.map_map]; rfl
      rw [ed] at ec
      exact .ret (c1 := (0, 0)) (by simp [fl, ec]) rfl
    · have hp : ¬ 0 < fitV P cap f (gI cs) := fun z => hw (hpos.mp z).2
      rw [if_neg hp]
      refine .leave (c1 := (0, 0)) (c2 := (0, 0)) (d := .none) ?_ rfl rfl
      by_cases h1 : sumLo ss ≤ gI cs 0
      · have h2 : ¬ gI cs 0 ≤ sumHi ss := fun z => hw ⟨h1, z⟩
        simp [h1, h2]
      · simp [h1]
  · have hp : ¬ 0 < fitV P cap f (gI cs) := fun z => hs (hpos.mp z).1
    rw [if_neg hp]
    rw [decide_eq_true hs] at e
    exact .leave (c1 := (0, 0)) (c2 := (0, 0)) (d := .none) (by simp [e]) rfl rfl
/-- the least row -/
def frX (P cap f : Nat) (cs : List Int) : Nat → Int := grX (loS f (gI cs) P) (hiS (cap : Int) f (gI cs) P) (gI cs 0) (sumN f (hiS (cap : Int) f (gI cs) P))
def frL (P cap f : Nat) (cs : List Int) : List Int := (List.range P).map fun p => frX P cap f cs (p % f) + Rf f (gI cs) p
end
end X
namespace X
open PySem PySem.Spec L2 DL DM
section
variable {P cap f : Nat} {cs : List Int}
theorem cut_mid {α : Type} {xs : List α} {i j : Nat} (h : i ≤ j) (h2 : j ≤ xs.length) : cutL xs (some (i : Int)) (some (j : Int)) = (xs.drop i).take (j - i) := by
  unfold cutL
  rw [HT.sIx_nat, HT.sIx_nat, Nat.min_eq_left h2, Nat.min_eq_left (show i ≤ xs.length by omega)]
theorem cnt_list {row : List Int} {s : Nat} (h : s + f ≤ row.length) : ((row.drop s).take f).sum = cnt f (gI row) s := by
  rw [sum_gI (n := f) (by rw [List.length_take, List.length_drop]; omega)]
  unfold cnt
  refine sumN_congr fun j hj => ?_
  unfold gI
  simp [List.getD, List.getElem?_take, hj]
theorem seqI_T {xs : List Int} : seqI (.tuple (iL xs)) = some xs := by
  show intsD (iL xs) = _
  unfold iL
  rw [intsD_map]
theorem seqI_L {xs : List Int} : seqI (.list (iL xs)) = some xs := by
  show intsD (iL xs) = _
  unfold iL
  rw [intsD_map]
theorem sumA_T {xs : List Int} : sumA [.tuple (iL xs)] = some (.int xs.sum) := by
  show (seqI (.tuple (iL xs))).map _ = _
  rw [seqI_T]; rfl
theorem minS_T {xs : List Int} (h : xs ≠ []) : minS [.tuple (iL xs)] = some (.int (minL xs)) := by
  show (seqI (.tuple (iL xs))).bind _ = _
  rw [seqI_T]
  show (if xs = [] then none else some (PyData.int (minL xs))) = _
  rw [if_neg h]
theorem maxS_T {xs : List Int} (h : xs ≠ []) : maxS [.tuple (iL xs)] = some (.int (maxL xs)) := by
  show (seqI (.tuple (iL xs))).bind _ = _
  rw [seqI_T]
  show (if xs = [] then none else some (PyData.int (maxL xs))) = _
  rw [if_neg h]
theorem rng_mem {lo : Int} {n : Nat} {x : D} (h : x ∈ rngL lo n) : ∃ i : Nat, i < n ∧ x = .int (lo + i) := by
  obtain ⟨p, hp, e⟩ := List.getElem_of_mem h
  exact ⟨p, rngL_lt (by rw [List.getElem?_eq_getElem hp, e])⟩
/-- the ends of a thread's first -/
def leT (P cap f : Nat) (cs : List Int) (t : Nat) : Int := max (loS f (gI cs) P t) (gI cs 0 - sumHi (SPL (cap : Int) f (gI cs) P) + hiS (cap : Int) f (gI cs) P t)
def moT (P cap f : Nat) (cs : List Int) (t : Nat) : Int := min (hiS (cap : Int) f (gI cs) P t) (gI cs 0 - sumLo (SPL (cap : Int) f (gI cs) P) + loS f (gI cs) P t)
theorem tgL_get {t : Nat} (ht : t < f) : atI (tgL P cap f cs) (t : Int) = some (.tuple [.int (leT P cap f cs t), .int (moT P cap f cs t)]) := by
  refine atI_nat ?_
  unfold tgL
  rw [SPL_map, List.map_map, List.getElem?_map, List.getElem?_range ht]
  rfl
def btD (P cap f : Nat) (cs : List Int) (p : Nat) : D := .tuple [.int (leT P cap f cs (p % f) + Rf f (gI cs) p), .int (moT P cap f cs (p % f) + Rf f (gI cs) p)]
end
end X
namespace X
open PySem PySem.Spec L2 DL DM
@[simp] theorem ev_abs {a : Int} : absD [.int a] = some (.int (if a < 0 then -a else a)) := Eq.trans rfl rfl
section
variable {P cap f : Nat} {cs : List Int}
/-- the other places of a place's thread -/
def othN (P f p : Nat) : Nat := if p + f < P then (P - (p + f) - 1) / f + 1 else 0
theorem oth_size (hf : 1 ≤ f) {p : Nat} : (Builtin.Range.rangeSize ((p : Int) + f) (P : Int) (f : Int)).toNat = othN P f p := by
  unfold Builtin.Range.rangeSize othN
  rw [if_pos (show (f : Int) > 0 by omega)]
  by_cases h : p + f < P
  · rw [if_pos (show (p : Int) + f < P by omega), if_pos h]
    have e1 : (P : Int) - ((p : Int) + f) - 1 = ((P - (p + f) - 1 : Nat) : Int) := by omega
    rw [e1, ← Int.natCast_ediv]
    generalize (P - (p + f) - 1) / f = z
    omega
  · rw [if_neg (show ¬ (p : Int) + f < P by omega), if_neg h]
    rfl
theorem oth_lt (hf : 1 ≤ f) {p k : Nat} (h : k < othN P f p) : p + f + k * f < P := by
  unfold othN at h
  split at h
  · have h1 : k * f ≤ P - (p + f) - 1 := Nat.le_trans (Nat.mul_le_mul_right f (by omega : k ≤ (P - (p + f) - 1) / f)) (Nat.div_mul_le_self _ _)
    omega
  · omega
theorem oth_le (hf : 1 ≤ f) {p : Nat} : othN P f p ≤ P := by
  unfold othN
  split
  · have := Nat.div_le_self (P - (p + f) - 1) f
    omega
  · omega
theorem oth_mem (hf : 1 ≤ f) {p q : Nat} (h1 : p < q) (h2 : q < P) (h3 : q % f = p % f) : ∃ k, k < othN P f p ∧ q = p + f + k * f := by
  have e1 := Nat.div_add_mod q f
  have e2 := Nat.div_add_mod p f
  rw [h3] at e1
  have hlt : p / f < q / f := Classical.byContradiction fun z => by
    have := Nat.mul_le_mul_left f (show q / f ≤ p / f by omega)
    omega
  obtain ⟨k, hk⟩ : ∃ k, q / f = p / f + 1 + k := ⟨q / f - p / f - 1, by omega⟩
  have e3 : q = p + f + k * f := by
    rw [hk, Nat.mul_add, Nat.mul_add, Nat.mul_one] at e1
    rw [Nat.mul_comm k f]
    omega
  refine ⟨k, ?_, e3⟩
  unfold othN
  rw [if_pos (by have := Nat.zero_le (k * f); omega)]
  have : k ≤ (P - (p + f) - 1) / f := (Nat.le_div_iff_mul_le (by omega)).mpr (by omega)
  omega
def tbOk (cap f : Nat) (cs : List Int) (p q : Nat) : Bool := decide ((cap : Int) < (if Rf f (gI cs) q - Rf f (gI cs) p < 0 then -(Rf f (gI cs) q - Rf f (gI cs) p) else Rf f (gI cs) q - Rf f (gI cs) p))
def tbIn (cap f : Nat) (cs : List Int) (p n : Nat) : List (Nat × Nat) := (((List.range n).map fun k => p + f + k * f).filter (tbOk cap f cs p)).map fun q => (p, q)
def tbL (P cap f : Nat) (cs : List Int) (n : Nat) : List (Nat × Nat) := (List.range n).flatMap fun p => tbIn cap f cs p (othN P f p)
def tbD (p : Nat × Nat) : D := .tuple [.str "thread", .int p.1, .int p.2]
theorem tbIn_succ {p n : Nat} : tbIn cap f cs p (n + 1) = tbIn cap f cs p n ++ if tbOk cap f cs p (p + f + n * f) = true then [(p, p + f + n * f)] else [] := by
  unfold tbIn
  rw [List.range_succ, List.map_append, List.filter_append, List.map_append]
  congr 1
  by_cases h : tbOk cap f cs p (p + f + n * f) = true
  · rw [if_pos h, List.map_singleton, List.filter_cons_of_pos h]; rfl
  · rw [if_neg h, List.map_singleton, List.filter_cons_of_neg h]; rfl
theorem tbL_succ {n : Nat} : tbL P cap f cs (n + 1) = tbL P cap f cs n ++ tbIn cap f cs n (othN P f n) := by
  unfold tbL
  rw [List.range_succ, List.flatMap_append]
  simp
theorem tbIn_len {p n : Nat} : (tbIn cap f cs p n).length ≤ n := by
  unfold tbIn
  rw [List.length_map]
  exact Nat.le_trans (List.length_filter_le _ _) (by simp)
theorem tbL_len (hf : 1 ≤ f) : ∀ {n : Nat}, (tbL P cap f cs n).length ≤ n * P
  | 0 => by simp [tbL]
  | n + 1 => by
    rw [tbL_succ, List.length_append, Nat.add_mul, Nat.one_mul]
    exact Nat.add_le_add (tbL_len hf (n := n)) (Nat.le_trans tbIn_len (oth_le hf))
theorem F_thread_bars_eq (h : Ask P cap f cs) : F_thread_bars [.int P, .int cap, .int f, .tuple (iL cs)] = some (.list ((tbL P cap f cs P).map tbD)) := by
  obtain ⟨f1, fP, P24, c9, hlen, hcb⟩ := id h
  have f0 : few 0 = true := by decide
  have f3 : few 3 = true := by decide
  refine bodyP_of rfl ?_
  unfold S_thread_bars
  refine .seq (ρ1 := [.im (.int P), .im (.int cap), .im (.int f), .im (.tuple (iL cs)), .im (.list (iL (RL f cs P))), .ol [], .un, .un]) (c1 := (0, 0)) (by simp [F_rises_eq f1 fP (by omega) hlen, f0]) ?_
  refine .seq (for_run (c1 := (0, 0)) (xs := rngL 0 P) (st := fun i => [.im (.int P), .im (.int cap), .im (.int f), .im (.tuple (iL cs)), .im (.list (iL (RL f cs P))), .ol ((tbL P cap f cs i).map tbD), .un, .un]) (by simp [okR_of (show (-1000000 : Int) ≤ P by omega) (by omega)]) rfl fun i x hx => ?_) ?_
  · obtain ⟨hi, rfl⟩ := rngL_lt hx
    refine ⟨_, rfl, then_run (ρ1 := [.im (.int P), .im (.int cap), .im (.int f), .im (.tuple (iL cs)), .im (.list (iL (RL f cs P))), .ol ((tbL P cap f cs (i + 1)).map tbD), .im (.int (0 + i)), .un]) ?_ rfl⟩
    rw [tbL_succ]
    have o3 : okR3 ((i : Int) + f) (P : Int) (f : Int) = true := decide_eq_true (by refine ⟨?_, ?_, ?_, ?_⟩ <;> omega)
    have os := oth_size (P := P) f1 (p := i)
    refine (for_run (c1 := (0, 0)) (xs := stpL ((i : Int) + f) f (othN P f i)) (st := fun j => [.im (.int P), .im (.int cap), .im (.int f), .im (.tuple (iL cs)), .im (.list (iL (RL f cs P))), .ol ((tbL P cap f cs i ++ tbIn cap f cs i j).map tbD), .im (.int (0 + i)), .un]) (by simp [o3, os]) (by simp [tbIn]) fun j y hy => ?_).trans (by rw [show (stpL ((i : Int) + f) f (othN P f i)).length = othN P f i by unfold stpL; simp])
    obtain ⟨hj, rfl⟩ := stpL_get hy
    have hq := oth_lt f1 hj
    refine ⟨_, rfl, then_run (ρ1 := [.im (.int P), .im (.int cap), .im (.int f), .im (.tuple (iL cs)), .im (.list (iL (RL f cs P))), .ol ((tbL P cap f cs i ++ tbIn cap f cs i (j + 1)).map tbD), .im (.int (0 + i)), .im (.int ((i : Int) + f + j * f))]) ?_ rfl⟩
    have ec : (i : Int) + f + (j : Int) * f = ((i + f + j * f : Nat) : Int) := by simp
    have g1 : atI (iL (RL f cs P)) ((i + f + j * f : Nat) : Int) = some (.int (Rf f (gI cs) (i + f + j * f))) := by rw [atI_iL (by rw [RL_len]; exact hq), RL_get hq]
    have g2 : atI (iL (RL f cs P)) (i : Int) = some (.int (Rf f (gI cs) i)) := by rw [atI_iL (by rw [RL_len]; exact hi), RL_get hi]
    have fw : few ((tbL P cap f cs i).length + (tbIn cap f cs i j).length) = true := few_of (by
      have a := tbL_len (P := P) (cap := cap) (cs := cs) f1 (n := i)
      have b := tbIn_len (cap := cap) (f := f) (cs := cs) (p := i) (n := j)
      have c := oth_le (P := P) f1 (p := i)
      have d : i * P ≤ 24 * 24 := Nat.mul_le_mul (by omega) P24
      omega)
    rw [ec, tbIn_succ]
    by_cases g3 : tbOk cap f cs i (i + f + j * f) = true
    · rw [if_pos g3]
      have g4 : (cap : Int) < (if Rf f (gI cs) (i + f + j * f) - Rf f (gI cs) i < 0 then -(Rf f (gI cs) (i + f + j * f) - Rf f (gI cs) i) else Rf f (gI cs) (i + f + j * f) - Rf f (gI cs) i) := of_decide_eq_true g3
      generalize i + f + j * f = q at *
      refine DL.ifT (c1 := (0, 0)) ?_ ?_
      · simp [g1, g2]; exact g4
      · simp [fw, f3]; rfl
    · rw [if_neg g3, List.append_nil]
      have g4 : ¬ (cap : Int) < (if Rf f (gI cs) (i + f + j * f) - Rf f (gI cs) i < 0 then -(Rf f (gI cs) (i + f + j * f) - Rf f (gI cs) i) else Rf f (gI cs) (i + f + j * f) - Rf f (gI cs) i) := fun z => g3 (decide_eq_true z)
      generalize i + f + j * f = q at *
      refine DL.ifF (c1 := (0, 0)) ?_ rfl
      simp [g1, g2]; omega
  · rw [rngL_len]
    exact .frz rfl (.ret rfl rfl)
theorem tbL_mem (hf : 1 ≤ f) {n : Nat} {x : Nat × Nat} : x ∈ tbL P cap f cs n → x.1 < n ∧ x.2 < P ∧ x.2 % f = x.1 % f ∧ tbOk cap f cs x.1 x.2 = true := by
  unfold tbL tbIn
  simp only [List.mem_flatMap, List.mem_range, List.mem_map, List.mem_filter]
  rintro ⟨p, hp, q, ⟨⟨k, hk, rfl⟩, hok⟩, rfl⟩
  refine ⟨hp, oth_lt hf hk, ?_, hok⟩
  show (p + f + k * f) % f = p % f
  rw [Nat.add_mul_mod_self_right, Nat.add_mod_right]
theorem tbL_nil (hf : 1 ≤ f) (hP : f ≤ P) : tbL P cap f cs P = [] ↔ OkS P (cap : Int) f (gI cs) := by
  constructor
  · intro h t ht
    obtain ⟨p, p1, p2, p3⟩ := loS_at (c := gI cs) hf hP ht
    obtain ⟨q, q1, q2, q3⟩ := hiS_at (c := gI cs) (cap := (cap : Int)) hf hP ht
    have key : ∀ a b, a < b → b < P → b % f = a % f → Rf f (gI cs) b - Rf f (gI cs) a ≤ cap ∧ Rf f (gI cs) a - Rf f (gI cs) b ≤ cap := fun a b hab hb he => by
      obtain ⟨k, hk, e⟩ := oth_mem (P := P) hf hab hb he
      have hn : ¬ tbOk cap f cs a b = true := fun z => by
        have : (a, b) ∈ tbL P cap f cs P := by
          unfold tbL tbIn
          simp only [List.mem_flatMap, List.mem_range, List.mem_map, List.mem_filter]
          exact ⟨a, by omega, b, ⟨⟨k, hk, e.symm⟩, z⟩, rfl⟩
        rw [h] at this; cases this
      unfold tbOk at hn
      rw [decide_eq_true_eq] at hn
      split at hn <;> omega
    rcases Nat.lt_trichotomy p q with z | z | z
    · have := key p q z q1 (by rw [q2, p2]); omega
    · subst z; omega
    · have := key q p z p1 (by rw [q2, p2]); omega
  · intro h
    refine List.eq_nil_iff_forall_not_mem.mpr fun x hx => ?_
    obtain ⟨h1, h2, h3, h4⟩ := tbL_mem hf hx
    have ht := h (x.1 % f) (Nat.mod_lt _ (by omega))
    have a1 := loS_le (c := gI cs) hf hP h1
    have a2 := hiS_ge (c := gI cs) (cap := (cap : Int)) hf hP h1
    have b1 := loS_le (c := gI cs) hf hP h2
    have b2 := hiS_ge (c := gI cs) (cap := (cap : Int)) hf hP h2
    rw [h3] at b1 b2
    unfold tbOk at h4
    rw [decide_eq_true_eq] at h4
    split at h4 <;> omega
end
end X
namespace X
open PySem PySem.Spec L2 DL DM
section
variable {P cap f : Nat} {cs : List Int}
theorem pln_thread {n : Nat} : Pln n (.str "thread") := ⟨by decide +kernel, by simp [PyData.depth]⟩
theorem pln_many {n : Nat} : Pln n (.str "many") := ⟨by decide +kernel, by simp [PyData.depth]⟩
theorem pln_few {n : Nat} : Pln n (.str "few") := ⟨by decide +kernel, by simp [PyData.depth]⟩
theorem pln_tb {p : Nat × Nat} : Pln 1 (tbD p) := .tuple fun d hd => by
  simp only [List.mem_cons, List.not_mem_nil, or_false] at hd
  rcases hd with z | z | z
  · rw [z]; exact pln_thread
  · rw [z]; exact pln_int
  · rw [z]; exact pln_int
theorem pln_tbs {l : List (Nat × Nat)} : ∀ d ∈ l.map tbD, Pln 1 d := fun d hd => by
  obtain ⟨p, _, rfl⟩ := List.mem_map.mp hd
  exact pln_tb
theorem pln_nil {n : Nat} : Pln (n + 1) (.list []) := .list fun d hd => by cases hd
theorem ne_nil {l : List (Nat × Nat)} : neD (.list (l.map tbD)) (.list []) = some (.bool (decide (l ≠ []))) := by
  have := neD_b (n := 2) (d := .list (l.map tbD)) (e := .list []) (b := decide (l = [])) (.list pln_tbs) pln_nil (by decide) (by
    rw [decide_eq_true_eq]
    constructor
    · rintro rfl; rfl
    · intro z
      have z' : l.map tbD = [] := by injection z
      exact List.map_eq_nil_iff.mp z')
  rw [this]
  by_cases e : l = []
  · simp [e]
  · simp [e]
/-- the bar -/
def barD (P cap f : Nat) (cs : List Int) : D :=
  if 0 < fitV P cap f (gI cs) then .none else match tbL P cap f cs P with
    | p :: _ => tbD p
    | [] => if sumHi (SPL (cap : Int) f (gI cs) P) < gI cs 0 then .tuple [.str "many", .int (sumHi (SPL (cap : Int) f (gI cs) P))] else .tuple [.str "few", .int (sumLo (SPL (cap : Int) f (gI cs) P))]
theorem F_bar_eq (h : Ask P cap f cs) : F_bar [.int P, .int cap, .int f, .tuple (iL cs)] = some (barD P cap f cs) := by
  have et := F_tight_eq h
  have eb := F_thread_bars_eq h
  have eg := F_ranges_eq h
  have hlen := Ask.spl_len (P := P) (cap := cap) (f := f) (cs := cs)
  have hP := h.P24
  have hfP := h.fP
  have f2 : few 2 = true := by decide
  have f0 : few 0 = true := by decide
  unfold barD
  refine bodyP_of rfl ?_
  unfold S_bar
  by_cases hp : 0 < fitV P cap f (gI cs)
  · rw [if_pos hp] at et ⊢
    have e3 : notND (.list (tgL P cap f cs)) .none = some (.bool true) := rfl
    exact .leave (c1 := (0, 0)) (c2 := (0, 0)) (d := .none) (by simp [et, e3]) rfl rfl
  · rw [if_neg hp] at et ⊢
    have e3 : notND .none .none = some (.bool false) := rfl
    refine .pass (c1 := (0, 0)) (by simp [et, e3]) ?_
    refine .seq (ρ1 := [.im (.int P), .im (.int cap), .im (.int f), .im (.tuple (iL cs)), .im (.list ((tbL P cap f cs P).map tbD)), .un, .un, .un]) (c1 := (0, 0)) (by simp [eb]) ?_
    have en := ne_nil (l := tbL P cap f cs P)
    cases hb : tbL P cap f cs P with
    | cons p r =>
      rw [hb] at en
      rw [decide_eq_true (by simp)] at en
      have ea : atI (tbD p :: r.map tbD) 0 = some (tbD p) := atI_nat (j := 0) rfl
      simp only [List.map_cons] at en
      exact .leave (c1 := (0, 0)) (c2 := (0, 0)) (d := tbD p) (by simp [en, f0]) (by simp [ea]) rfl
    | nil =>
      rw [hb] at en
      rw [decide_eq_false (by simp)] at en
      simp only [List.map_nil] at en ⊢
      have hs := okS_iff.mp ((tbL_nil h.f1 h.fP).mp hb)
      rw [spO_ok hs] at eg
      refine .pass (c1 := (0, 0)) (by simp [en, f0]) ?_
      unfold sumHi sumLo
      generalize SPL (cap : Int) f (gI cs) P = ss at *
      have fl : few ss.length = true := few_of (by omega)
      refine .seq (ρ1 := [.im (.int P), .im (.int cap), .im (.int f), .im (.tuple (iL cs)), .im (.list []), .im (.list (ss.map spT)), .un, .un]) (c1 := (0, 0)) (by simp [eg]) ?_
      have eh := lcS_map (tg := qN 7) (e := sOp ixD (sV 7) (sC (.int 1))) (ρ0 := [.im (.int P), .im (.int cap), .im (.int f), .im (.tuple (iL cs)), .im (.list []), .im (.list (ss.map spT)), .un, .un]) (xs := ss.map spT) (c := (0, 0)) sndD (fun x hx => by
        obtain ⟨s, _, rfl⟩ := spT_mem hx
        exact ⟨_, rfl, by simp [show atI [PyData.int s.1, PyData.int s.2] 1 = some (.int s.2) from rfl]; rfl⟩)
      rw [snd_map] at eh
      refine .seq (ρ1 := [.im (.int P), .im (.int cap), .im (.int f), .im (.tuple (iL cs)), .im (.list []), .im (.list (ss.map spT)), .im (.int (ss.map (·.2)).sum), .un]) (c1 := (0, 0)) (by simp [fl, eh, sumA_iL]) ?_
      have el := lcS_map (tg := qN 7) (e := sOp ixD (sV 7) (sC (.int 0))) (ρ0 := [.im (.int P), .im (.int cap), .im (.int f), .im (.tuple (iL cs)), .im (.list []), .im (.list (ss.map spT)), .im (.int (ss.map (·.2)).sum), .un]) (xs := ss.map spT) (c := (0, 0)) fstD (fun x hx => by
        obtain ⟨s, _, rfl⟩ := spT_mem hx
        exact ⟨_, rfl, by simp [show atI [PyData.int s.1, PyData.int s.2] 0 = some (.int s.1) from rfl]; rfl⟩)
      rw [fst_map] at el
      by_cases g : (ss.map (·.2)).sum < gI cs 0
      · rw [if_pos g]
        exact .ret (c1 := (0, 0)) (by simp [c0_at h, g, f2]) rfl
      · rw [if_neg g]
        exact .ret (c1 := (0, 0)) (by simp [c0_at h, g, f2, fl, el, sumA_iL]) rfl
end
end X
namespace X
open PySem PySem.Spec L2 DL DM
section
variable {P cap f : Nat} {cs : List Int}
theorem F_is_between_eq {x lo hi : Int} : F_is_between [.int x, .int lo, .int hi] = some (.bool (decide (lo ≤ x) && decide (x ≤ hi))) := by
  refine bodyP_of rfl ?_
  unfold S_is_between
  have e1 : isB .int (.int x) = true := rfl
  have e2 : isB .bool (.int x) = false := rfl
  by_cases h : lo ≤ x
  · exact .ret (c1 := (0, 0)) (by simp [e1, e2, h]; rfl) (by simp [h])
  · exact .ret (c1 := (0, 0)) (by simp [e1, e2, h]; rfl) (by simp [h])
theorem allD_b {bs : List Bool} : allD [.list (bs.map .bool)] = some (.bool (bs.all id)) := by
  show (boolsD _).map _ = _
  rw [boolsD_map]; rfl
theorem anyD_b {bs : List Bool} : anyD [.list (bs.map .bool)] = some (.bool (bs.any id)) := by
  show (boolsD _).map _ = _
  rw [boolsD_map]; rfl
theorem span_sum (h : Ask P cap f cs) (ok : OkS P (cap : Int) f (gI cs)) : 0 ≤ sumLo (SPL (cap : Int) f (gI cs) P) ∧ sumLo (SPL (cap : Int) f (gI cs) P) ≤ 216 ∧ 0 ≤ sumHi (SPL (cap : Int) f (gI cs) P) ∧ sumHi (SPL (cap : Int) f (gI cs) P) ≤ 216 := by
  rw [sumLo_SPL, sumHi_SPL]
  have b := fun t ht => span_bd (cap := cap) (cs := cs) h.f1 h.fP (t := t) ht
  have h1 := sumN_le (g := fun _ => (0 : Int)) (h := loS f (gI cs) P) (n := f) fun t ht => (b t ht).1
  have h2 := sumN_le (g := loS f (gI cs) P) (h := hiS (cap : Int) f (gI cs) P) (n := f) fun t ht => ok t ht
  have h3 := sumN_le (g := hiS (cap : Int) f (gI cs) P) (h := fun _ => (cap : Int)) (n := f) fun t ht => (b t ht).2
  rw [sumN_const] at h1 h3
  have h4 : f * cap ≤ 216 := Nat.le_trans (Nat.mul_le_mul (Nat.le_trans h.fP h.P24) h.c9) (by decide)
  rw [← Int.natCast_mul] at h3
  omega
/-- three parts, or two -/
theorem F_is_bar_eq (h : Ask P cap f cs) (hp : ¬ 0 < fitV P cap f (gI cs)) : F_is_bar [.int P, .int cap, .int f, .tuple (iL cs), barD P cap f cs] = some (.bool true) := by
  have eb := F_thread_bars_eq h
  have eB := F_bar_eq h
  have hP24 := h.P24
  have f0 : few 0 = true := by decide
  have f2 : few 2 = true := by decide
  have f1 : few 1 = true := by decide
  have w1 : powD (.int 10) (.int 4) = some (.int 10000) := rfl
  have ss : isB .str (.str "thread") = true := rfl
  have nin : ∀ n : Nat, n = 2 ∨ n = 3 → notInD (.int (n : Int)) (.tuple [.int 2, .int 3]) = some (.bool false) := fun n hn => by
    rcases hn with rfl | rfl <;> rfl
  refine bodyP_of rfl ?_
  unfold S_is_bar
  have en := ne_nil (l := tbL P cap f cs P)
  cases hb : tbL P cap f cs P with
  | cons p r =>
    have eD : barD P cap f cs = tbD p := by unfold barD; rw [if_neg hp, hb]
    rw [eD]
    rw [hb] at en eb
    rw [decide_eq_true (by simp)] at en
    have hm := tbL_mem (x := p) h.f1 (by rw [hb]; exact List.mem_cons_self)
    have e1 : isB .tuple (tbD p) = true := rfl
    have e2 : atI [PyData.str "thread", .int p.1, .int p.2] 0 = some (.str "thread") := rfl
    have n3 := nin 3 (.inr rfl)
    refine .pass (c1 := (0, 0)) (by simp [tbD, show isB .tuple (.tuple [PyData.str "thread", .int p.1, .int p.2]) = true from rfl, e2, ss, f2]; simp at n3; simp [n3]) ?_
    have ec : cutL [PyData.str "thread", .int p.1, .int p.2] (some 1) none = [.int p.1, .int p.2] := rfl
    have b1 := F_is_between_eq (x := p.1) (lo := -10000) (hi := 10000)
    have b2 := F_is_between_eq (x := p.2) (lo := -10000) (hi := 10000)
    have q1 : (decide ((-10000 : Int) ≤ (p.1 : Int)) && decide ((p.1 : Int) ≤ 10000)) = true := by simp; omega
    have q2 : (decide ((-10000 : Int) ≤ (p.2 : Int)) && decide ((p.2 : Int) ≤ 10000)) = true := by simp; omega
    rw [q1] at b1
    rw [q2] at b2
    have ea : allD [.list [.bool true, .bool true]] = some (.bool true) := rfl
    refine .pass (c1 := (0, 0)) (by simp [tbD, ec, f2, lcS, w1, b1, b2, ea]) ?_
    refine .seq (ρ1 := [.im (.int P), .im (.int cap), .im (.int f), .im (.tuple (iL cs)), .im (tbD p), .im (.list ((p :: r).map tbD)), .un]) (c1 := (0, 0)) (by simp [eb]) ?_
    have ei : inD (tbD p) (.list ((p :: r).map tbD)) = some (.bool true) := inD_b (n := 1) (pln_tb.up (by decide)) pln_tbs (by decide) (by simp)
    simp only [List.map_cons] at ei en
    exact .leave (c1 := (0, 0)) (c2 := (0, 0)) (d := .bool true) (by simp [en, f0]) (by simp [ei]) rfl
  | nil =>
    rw [hb] at en eb
    rw [decide_eq_false (by simp)] at en
    have ok := (tbL_nil h.f1 h.fP).mp hb
    obtain ⟨s1, s2, s3, s4⟩ := span_sum h ok
    have main : ∀ (w : Str) (z : Int), isB .str (.str w) = true → Pln 1 (.tuple [.str w, .int z]) → -10000 ≤ z → z ≤ 10000 → barD P cap f cs = .tuple [.str w, .int z] → Runs S_is_bar (([.int P, .int cap, .int f, .tuple (iL cs), barD P cap f cs] : List D).map Sl.im ++ List.replicate 2 Sl.un) (0, 0) (IsRt (.bool true)) := by
      intro w z hs hpl z1 z2 eD
      rw [eD] at eB ⊢
      unfold S_is_bar
      have e2 : atI [PyData.str w, .int z] 0 = some (.str w) := rfl
      have n2 := nin 2 (.inl rfl)
      refine .pass (c1 := (0, 0)) (by simp [show isB .tuple (.tuple [PyData.str w, .int z]) = true from rfl, e2, hs, f2]; simp at n2; simp [n2]) ?_
      have ec : cutL [PyData.str w, .int z] (some 1) none = [.int z] := rfl
      have b1 := F_is_between_eq (x := z) (lo := -10000) (hi := 10000)
      have q1 : (decide ((-10000 : Int) ≤ z) && decide (z ≤ 10000)) = true := by simp; omega
      rw [q1] at b1
      have ea : allD [.list [.bool true]] = some (.bool true) := rfl
      refine .pass (c1 := (0, 0)) (by simp [ec, f1, lcS, w1, b1, ea]) ?_
      refine .seq (ρ1 := [.im (.int P), .im (.int cap), .im (.int f), .im (.tuple (iL cs)), .im (.tuple [.str w, .int z]), .im (.list []), .un]) (c1 := (0, 0)) (by simp [eb]) ?_
      refine .pass (c1 := (0, 0)) (by simp at en; simp [en, f0]) ?_
      have eq : eqD (.tuple [.str w, .int z]) (.tuple [.str w, .int z]) = some (.bool true) := eqD_b (n := 1) hpl hpl (by decide) (by simp)
      exact .ret (d := .bool true) (c1 := (0, 0)) (by simp [eB, eq]) rfl
    have p2 : ∀ (w : Str) (z : Int), (∀ n, Pln n (.str w)) → Pln 1 (.tuple [.str w, .int z]) := fun w z hw => .tuple fun d hd => by
      simp only [List.mem_cons, List.not_mem_nil, or_false] at hd
      rcases hd with e | e
      · rw [e]; exact hw 0
      · rw [e]; exact pln_int
    by_cases g : sumHi (SPL (cap : Int) f (gI cs) P) < gI cs 0
    · exact main "many" (sumHi (SPL (cap : Int) f (gI cs) P)) rfl (p2 _ _ fun n => pln_many) (by omega) (by omega) (by unfold barD; rw [if_neg hp, hb]; exact if_pos g)
    · exact main "few" (sumLo (SPL (cap : Int) f (gI cs) P)) rfl (p2 _ _ fun n => pln_few) (by omega) (by omega) (by unfold barD; rw [if_neg hp, hb]; exact if_neg g)
end
end X
namespace X
open PySem PySem.Spec L2 DL DM
section
variable {P cap f : Nat} {cs : List Int}
theorem sumN_upd {g : Nat → Int} {t : Nat} {x : Int} : ∀ {n : Nat}, t < n → sumN n (fun s => if s = t then x else g s) = sumN n g - g t + x
  | 0, h => absurd h (by omega)
  | n + 1, h => by
    show sumN n (fun s => if s = t then x else g s) + (if n = t then x else g n) = sumN n g + g n - g t + x
    by_cases e : n = t
    · subst e
      have : sumN n (fun s => if s = n then x else g s) = sumN n g := sumN_congr fun i hi => by rw [if_neg (by omega)]
      rw [if_pos rfl, this]
      omega
    · rw [if_neg e, sumN_upd (by omega)]
      omega
theorem SPL_sums : sumLo (SPL (cap : Int) f (gI cs) P) = sumN f (loS f (gI cs) P) ∧ sumHi (SPL (cap : Int) f (gI cs) P) = sumN f (hiS (cap : Int) f (gI cs) P) := ⟨sumLo_SPL, sumHi_SPL⟩
theorem gI_tab {g : Nat → Int} {n t : Nat} (h : t < n) : gI ((List.range n).map g) t = g t := by
  unfold gI
  simp [List.getD, h]
/-- a lot out of numbers within their spans -/
theorem lot_of (h : Ask P cap f cs) {v : Nat → Int} (hv : ∀ t, t < f → loS f (gI cs) P t ≤ v t ∧ v t ≤ hiS (cap : Int) f (gI cs) P t) (hs : sumN f v = gI cs 0) : (List.range f).map v ∈ VL P cap f cs := by
  have hl : ((List.range f).map v).length = f := by simp
  refine List.mem_filter.mpr ⟨mem_lots.mpr ⟨hl, fun x hx => ?_⟩, ?_⟩
  · obtain ⟨t, ht, rfl⟩ := List.mem_map.mp hx
    have ht := List.mem_range.mp ht
    have := span_bd (cap := cap) (cs := cs) h.f1 h.fP ht
    have := hv t ht
    omega
  · unfold okV
    rw [Bool.and_eq_true, decide_eq_true_eq, okLot_iff, hl]
    refine ⟨fun t ht => ?_, ?_⟩
    · rw [gI_tab ht]; exact hv t ht
    · rw [sumN_map]; exact hs
theorem of_lot {lot : List Int} (h : lot ∈ VL P cap f cs) : lot.length = f ∧ (∀ t, t < f → loS f (gI cs) P t ≤ gI lot t ∧ gI lot t ≤ hiS (cap : Int) f (gI cs) P t) ∧ sumN f (gI lot) = gI cs 0 := by
  obtain ⟨h1, h2⟩ := List.mem_filter.mp h
  have hl := (mem_lots.mp h1).1
  unfold okV at h2
  rw [Bool.and_eq_true, decide_eq_true_eq, okLot_iff, hl] at h2
  exact ⟨hl, h2.1, by rw [← h2.2, sum_gI hl]⟩
theorem val_iff (h : Ask P cap f cs) {t : Nat} (ht : t < f) (hp : 0 < fitV P cap f (gI cs)) {x : Int} : (leT P cap f cs t ≤ x ∧ x ≤ moT P cap f cs t) ↔ ∃ lot ∈ VL P cap f cs, gI lot t = x := by
  obtain ⟨e1, e2⟩ := SPL_sums (P := P) (cap := cap) (f := f) (cs := cs)
  unfold leT moT
  rw [e1, e2]
  obtain ⟨ok, p1, p2⟩ := fitV_pos.mp hp
  constructor
  · intro hx
    have u1 := sumN_upd (g := loS f (gI cs) P) (t := t) (x := x) ht
    have u2 := sumN_upd (g := hiS (cap : Int) f (gI cs) P) (t := t) (x := x) ht
    obtain ⟨g1, g2⟩ := gr_ok (lo := fun s => if s = t then x else loS f (gI cs) P s) (hi := fun s => if s = t then x else hiS (cap : Int) f (gI cs) P s) (c0 := gI cs 0) (f := f) (fun s hs => by
      try dsimp only
      split
      · exact Int.le_refl _
      · exact ok s hs) (by omega) (by omega)
    refine ⟨_, lot_of h (fun s hs => ?_) g2, ?_⟩
    · have := g1 s hs
      try dsimp only at this
      split at this
      · rename_i e; subst e; omega
      · exact this
    · rw [gI_tab ht]
      have := g1 t ht
      try dsimp only at this
      rw [if_pos rfl, if_pos rfl] at this
      omega
  · rintro ⟨lot, hlot, rfl⟩
    obtain ⟨hl, hb, hs⟩ := of_lot hlot
    have u1 := sumN_upd (g := loS f (gI cs) P) (t := t) (x := gI lot t) ht
    have u2 := sumN_upd (g := hiS (cap : Int) f (gI cs) P) (t := t) (x := gI lot t) ht
    have v1 := sumN_le (g := fun s => if s = t then gI lot t else loS f (gI cs) P s) (h := gI lot) (n := f) fun s hs => by
      try dsimp only
      split
      · rename_i e; subst e; exact Int.le_refl _
      · exact (hb s hs).1
    have v2 := sumN_le (g := gI lot) (h := fun s => if s = t then gI lot t else hiS (cap : Int) f (gI cs) P s) (n := f) fun s hs => by
      try dsimp only
      split
      · rename_i e; subst e; exact Int.le_refl _
      · exact (hb s hs).2
    have := hb t ht
    omega
theorem VL_pos (h : Ask P cap f cs) : (0 < fitV P cap f (gI cs)) ↔ VL P cap f cs ≠ [] := by
  have := VL_count (P := P) (cap := cap) (f := f) (cs := cs) h.f1 h.fP h.P24 h.c9 h.cb
  rw [← this]
  constructor
  · intro z e; rw [e] at z; simp at z
  · intro z
    have := List.length_pos_iff.mpr z
    omega
/-- the first of all rows is the least row -/
theorem VL_head (h : Ask P cap f cs) (hp : 0 < fitV P cap f (gI cs)) : (VL P cap f cs).head? = some ((List.range f).map (frX P cap f cs)) := by
  obtain ⟨ok, p1, p2⟩ := fitV_pos.mp hp
  obtain ⟨g1, g2⟩ := gr_ok (lo := loS f (gI cs) P) (hi := hiS (cap : Int) f (gI cs) P) (c0 := gI cs 0) (f := f) ok p1 p2
  have hm := lot_of h (v := frX P cap f cs) g1 g2
  obtain ⟨m1, m2⟩ := List.mem_filter.mp hm
  refine head_least (lots_sorted f) m1 m2 fun lot hlot hok => ?_
  obtain ⟨hl, hb, hs⟩ := of_lot (List.mem_filter.mpr ⟨hlot, hok⟩)
  refine lexGt_false (by simp [hl]) fun i hi hj => ?_
  rw [List.length_map, List.length_range] at hi
  rw [gI_tab hi]
  exact gr_least hi hb hs fun s hs' => by
    have := hj s hs'
    rw [gI_tab (by omega)] at this
    exact this.symm
theorem rowG_fr : rowG P f cs ((List.range f).map (frX P cap f cs)) = frL P cap f cs ∨ f = 0 := by
  by_cases hf : f = 0
  · exact .inr hf
  · refine .inl ?_
    unfold rowG frL
    refine List.map_congr_left fun p _ => ?_
    rw [gI_tab (Nat.mod_lt p (by omega))]
theorem eqD_bool {a b : Bool} : eqD (.bool a) (.bool b) = some (.bool (a == b)) := by
  have hs : ∀ a : Bool, SeqAt.shaped (.bool a) = true := fun a => by cases a <;> rfl
  unfold eqD
  rw [if_pos ⟨hs a, hs b⟩]
  simp [PyData.eqv]
theorem fit_VL (h : Ask P cap f cs) : fitV P cap f (gI cs) = (((VL P cap f cs).length : Nat) : Int) := (VL_count h.f1 h.fP h.P24 h.c9 h.cb).symm
theorem pln_bt {l : List Nat} : ∀ d ∈ l.map (btD P cap f cs), Pln 1 d := fun d hd => by
  obtain ⟨p, _, rfl⟩ := List.mem_map.mp hd
  exact .tuple fun e he => by
    rcases List.mem_cons.mp he with z | z
    · rw [z]; exact pln_int
    · rw [List.mem_singleton.mp z]; exact pln_int

/-- threads that are open -/
def opn (P cap f : Nat) (cs : List Int) (t : Nat) : Bool := decide (leT P cap f cs t < moT P cap f cs t)
def opL (P cap f : Nat) (cs : List Int) : List Nat := (List.range f).filter (opn P cap f cs)
def nL (xs : List Nat) : List Int := xs.map fun x : Nat => (x : Int)
theorem sumN_lt {g h : Nat → Int} : ∀ {n : Nat}, (∀ i, i < n → g i ≤ h i) → ∀ t, t < n → (∀ s, s < n → s ≠ t → g s = h s) → sumN n h - sumN n g = h t - g t
  | 0, _, t, ht, _ => absurd ht (by omega)
  | n + 1, hl, t, ht, he => by
    show sumN n h + h n - (sumN n g + g n) = _
    by_cases e : t = n
    · subst e
      have : sumN t g = sumN t h := sumN_congr fun i hi => he i (by omega) (by omega)
      omega
    · have := sumN_lt (g := g) (h := h) (n := n) (fun i hi => hl i (by omega)) t (by omega) fun s hs hn => he s (by omega) hn
      have := he n (by omega) (fun z => e z.symm)
      omega
theorem sumN_ge {g h : Nat → Int} : ∀ {n : Nat}, (∀ i, i < n → g i ≤ h i) → ∀ t, t < n → h t - g t ≤ sumN n h - sumN n g
  | 0, _, t, ht => absurd ht (by omega)
  | n + 1, hl, t, ht => by
    show _ ≤ sumN n h + h n - (sumN n g + g n)
    by_cases e : t = n
    · subst e
      have := sumN_le (g := g) (h := h) (n := t) fun i hi => hl i (by omega)
      omega
    · have := sumN_ge (g := g) (h := h) (n := n) (fun i hi => hl i (by omega)) t (by omega)
      have := hl n (by omega)
      omega
theorem sumN_two {g h : Nat → Int} : ∀ {n : Nat}, (∀ i, i < n → g i ≤ h i) → ∀ t s, t < n → s < n → t ≠ s → (h t - g t) + (h s - g s) ≤ sumN n h - sumN n g
  | 0, _, t, s, ht, _, _ => absurd ht (by omega)
  | n + 1, hl, t, s, ht, hs, hn => by
    show _ ≤ sumN n h + h n - (sumN n g + g n)
    have h0 := fun i (hi : i < n) => hl i (by omega)
    by_cases e : t = n
    · subst e
      have := sumN_ge (n := t) h0 s (by omega)
      omega
    · by_cases e2 : s = n
      · subst e2
        have := sumN_ge (n := s) h0 t (by omega)
        omega
      · have := sumN_two (n := n) h0 t s (by omega) (by omega) hn
        have := hl n (by omega)
        omega
/-- an open thread is never alone -/
theorem opn_two (h : Ask P cap f cs) (hp : 0 < fitV P cap f (gI cs)) {t : Nat} (ht : t < f) (ho : opn P cap f cs t = true) : ∃ s, s < f ∧ s ≠ t ∧ opn P cap f cs s = true := by
  obtain ⟨ok, p1, p2⟩ := fitV_pos.mp hp
  obtain ⟨e1, e2⟩ := SPL_sums (P := P) (cap := cap) (f := f) (cs := cs)
  unfold opn leT moT at ho
  rw [decide_eq_true_eq, e1, e2] at ho
  have key : ∃ s, s < f ∧ s ≠ t ∧ loS f (gI cs) P s < hiS (cap : Int) f (gI cs) P s := Classical.byContradiction fun z => by
    have := sumN_lt (g := loS f (gI cs) P) (h := hiS (cap : Int) f (gI cs) P) (n := f) (fun i hi => ok i hi) t ht fun s hs hn => by
      have := ok s hs
      have : ¬ loS f (gI cs) P s < hiS (cap : Int) f (gI cs) P s := fun w => z ⟨s, hs, hn, w⟩
      omega
    omega
  obtain ⟨s, hs, hn, hlt⟩ := key
  refine ⟨s, hs, hn, ?_⟩
  have := sumN_two (g := loS f (gI cs) P) (h := hiS (cap : Int) f (gI cs) P) (n := f) (fun i hi => ok i hi) t s ht hs (fun z => hn z.symm)
  unfold opn leT moT
  rw [decide_eq_true_eq, e1, e2]
  omega
theorem opL_mem {t : Nat} : t ∈ opL P cap f cs ↔ t < f ∧ opn P cap f cs t = true := by
  unfold opL; rw [List.mem_filter, List.mem_range]
theorem opL_lt : (opL P cap f cs).Pairwise (· < ·) := List.Pairwise.filter _ List.pairwise_lt_range
theorem opL_one (h : Ask P cap f cs) (hp : 0 < fitV P cap f (gI cs)) {t : Nat} : opL P cap f cs ≠ [t] := fun z => by
  obtain ⟨h1, h2⟩ := opL_mem.mp (by rw [z]; exact List.mem_cons_self)
  obtain ⟨s, s1, s2, s3⟩ := opn_two h hp h1 h2
  have := opL_mem.mpr ⟨s1, s3⟩
  rw [z, List.mem_singleton] at this
  exact s2 this
theorem leT_le (h : Ask P cap f cs) (hp : 0 < fitV P cap f (gI cs)) {t : Nat} (ht : t < f) : leT P cap f cs t ≤ moT P cap f cs t := by
  have hv := (VL_pos h).mp hp
  cases e : VL P cap f cs with
  | nil => exact absurd e hv
  | cons l r =>
    have := (val_iff h ht hp (x := gI l t)).mpr ⟨l, by rw [e]; exact List.mem_cons_self, rfl⟩
    omega
/-- one row alone just where no thread is open -/
theorem one_iff (h : Ask P cap f cs) (hp : 0 < fitV P cap f (gI cs)) : fitV P cap f (gI cs) = 1 ↔ opL P cap f cs = [] := by
  have hv := (VL_pos h).mp hp
  rw [fit_VL h]
  constructor
  · intro e
    have e' : (VL P cap f cs).length = 1 := by omega
    obtain ⟨l, el⟩ := List.length_eq_one_iff.mp e'
    refine List.eq_nil_iff_forall_not_mem.mpr fun t ht => ?_
    obtain ⟨h1, h2⟩ := opL_mem.mp ht
    have hle := leT_le h hp h1
    unfold opn at h2
    rw [decide_eq_true_eq] at h2
    obtain ⟨a, ha, ea⟩ := (val_iff h h1 hp (x := leT P cap f cs t)).mp (by omega)
    obtain ⟨b, hb, eb⟩ := (val_iff h h1 hp (x := moT P cap f cs t)).mp (by omega)
    rw [el, List.mem_singleton] at ha hb
    subst ha; subst hb
    omega
  · intro e
    have same : ∀ a ∈ VL P cap f cs, ∀ b ∈ VL P cap f cs, a = b := fun a ha b hb => by
      have la := (of_lot ha).1
      have lb := (of_lot hb).1
      refine gI_ext (by rw [la, lb]) fun t ht => ?_
      rw [la] at ht
      have a1 := (val_iff h ht hp (x := gI a t)).mpr ⟨a, ha, rfl⟩
      have b1 := (val_iff h ht hp (x := gI b t)).mpr ⟨b, hb, rfl⟩
      have : ¬ (leT P cap f cs t < moT P cap f cs t) := fun z => by
        have : t ∈ opL P cap f cs := opL_mem.mpr ⟨ht, by unfold opn; exact decide_eq_true z⟩
        rw [e] at this; cases this
      omega
    cases el : VL P cap f cs with
    | nil => exact absurd el hv
    | cons l r =>
      cases r with
      | nil => rfl
      | cons m r =>
        have hn : (VL P cap f cs).Nodup := List.Pairwise.filter _ lots_nodup
        rw [el] at hn same
        have := same l (by simp) m (by simp)
        subst this
        simp at hn
end
end X
namespace X
open PySem PySem.Spec L2 DL DM
section
variable {P cap f : Nat} {cs : List Int}
theorem enum_range {g : Nat → D} {n : Nat} : enumL ((List.range n).map g) = (List.range n).map fun t : Nat => PyData.tuple [.int (t : Nat), g t] := by
  unfold enumL
  apply List.ext_getElem
  · simp
  · intro i h1 h2
    simp
theorem tgL_range : tgL P cap f cs = (List.range f).map fun t => .tuple [.int (leT P cap f cs t), .int (moT P cap f cs t)] := by
  unfold tgL
  rw [SPL_map, List.map_map]
  rfl
theorem fm_if {p : Nat → Bool} : ∀ l : List Nat, l.filterMap (fun t : Nat => if p t = true then some (PyData.int (t : Nat)) else none) = iL (nL (l.filter p))
  | [] => rfl
  | x :: l => by
    rw [List.filterMap_cons, List.filter_cons, fm_if l]
    by_cases e : p x = true
    · rw [if_pos e, if_pos e]; rfl
    · rw [if_neg e, if_neg e]
theorem opL_len : (opL P cap f cs).length ≤ f := by
  unfold opL
  exact Nat.le_trans (List.length_filter_le _ _) (by simp)
theorem F_open_threads_eq (h : Ask P cap f cs) : F_open_threads [.int P, .int cap, .int f, .tuple (iL cs)] = some (if 0 < fitV P cap f (gI cs) then .list (iL (nL (opL P cap f cs))) else .none) := by
  have et := F_tight_eq h
  have hP := h.P24
  have hfP := h.fP
  have ff : few f = true := few_of (by omega)
  refine bodyP_of rfl ?_
  unfold S_open_threads
  by_cases hp : 0 < fitV P cap f (gI cs)
  · rw [if_pos hp] at et ⊢
    refine .seq (ρ1 := [.im (.int P), .im (.int cap), .im (.int f), .im (.tuple (iL cs)), .im (.list (tgL P cap f cs)), .un, .un]) (c1 := (0, 0)) (by simp [et]) ?_
    have e3 : isND (.list (tgL P cap f cs)) .none = some (.bool false) := rfl
    have hl : (enumL (tgL P cap f cs)).length = f := by rw [tgL_range, enum_range]; simp
    have el := lcS_run (tg := qTup (qCons (qN 5) (qCons (qN 6) qNil))) (t := sB (sOp ltD (sOp ixD (sV 6) (sC (.int 0))) (sOp ixD (sV 6) (sC (.int 1))))) (e := sV 5) (ρ0 := [.im (.int P), .im (.int cap), .im (.int f), .im (.tuple (iL cs)), .im (.list (tgL P cap f cs)), .un, .un]) (xs := enumL (tgL P cap f cs)) (c := (0, 0)) (fun d => match d with | .tuple [.int t, _] => (if opn P cap f cs t.toNat = true then some (.int t) else none) | _ => none) (fun x hx => by
      rw [tgL_range, enum_range] at hx
      obtain ⟨t, ht, rfl⟩ := List.mem_map.mp hx
      refine ⟨_, rfl, ?_⟩
      have a0 : atI [PyData.int (leT P cap f cs t), .int (moT P cap f cs t)] 0 = some (.int (leT P cap f cs t)) := rfl
      have a1 : atI [PyData.int (leT P cap f cs t), .int (moT P cap f cs t)] 1 = some (.int (moT P cap f cs t)) := rfl
      simp only [Int.toNat_natCast]
      by_cases o : opn P cap f cs t = true
      · have o' : leT P cap f cs t < moT P cap f cs t := of_decide_eq_true o
        rw [if_pos o]
        simp [a0, a1, o']
      · have o' : ¬ leT P cap f cs t < moT P cap f cs t := fun z => o (decide_eq_true z)
        rw [if_neg o]
        simp [a0, a1]
        omega)
    have e4 : (enumL (tgL P cap f cs)).filterMap (fun d => match d with | .tuple [.int t, _] => (if opn P cap f cs t.toNat = true then some (PyData.int t) else none) | _ => none) = iL (nL (opL P cap f cs)) := by
      unfold opL
      rw [← fm_if, tgL_range, enum_range, List.filterMap_map]
      rfl
    rw [e4] at el
    exact .ret (c1 := (0, 0)) (by simp [e3, hl, ff, el]) rfl
  · rw [if_neg hp] at et ⊢
    refine .seq (ρ1 := [.im (.int P), .im (.int cap), .im (.int f), .im (.tuple (iL cs)), .im .none, .un, .un]) (c1 := (0, 0)) (by simp [et]) ?_
    have e3 : isND .none .none = some (.bool true) := rfl
    exact .ret (c1 := (0, 0)) (by simp [e3]) rfl
theorem cut_last {α : Type} {xs : List α} : cutL xs none (some (-1)) = xs.dropLast := by
  rw [List.dropLast_eq_take]
  unfold cutL HT.sIx
  by_cases h : xs.length = 0
  · have : xs = [] := List.length_eq_zero_iff.mp h
    subst this
    rfl
  · show (xs.drop 0).take (_ - 0) = _
    rw [List.drop_zero]
    congr 1
    simp
    omega
theorem cut_1 {α : Type} {xs : List α} : cutL xs (some 1) none = xs.drop 1 := by
  unfold cutL HT.sIx
  cases xs with
  | nil => rfl
  | cons x xs =>
    simp
theorem nL_dropLast {xs : List Nat} : (iL (nL xs)).dropLast = iL (nL xs.dropLast) := by
  unfold iL nL
  rw [List.map_dropLast, List.map_dropLast]
theorem nL_drop {xs : List Nat} {n : Nat} : (iL (nL xs)).drop n = iL (nL (xs.drop n)) := by
  unfold iL nL
  rw [List.map_drop, List.map_drop]
theorem F_looks_eq (h : Ask P cap f cs) : F_looks [.int P, .int cap, .int f, .tuple (iL cs)] = some (if 0 < fitV P cap f (gI cs) then .tuple (iL (nL (opL P cap f cs).dropLast)) else .none) := by
  have et := F_open_threads_eq h
  refine bodyP_of rfl ?_
  unfold S_looks
  by_cases hp : 0 < fitV P cap f (gI cs)
  · rw [if_pos hp] at et ⊢
    have e3 : isND (.list (iL (nL (opL P cap f cs)))) .none = some (.bool false) := rfl
    refine .seq (ρ1 := [.im (.int P), .im (.int cap), .im (.int f), .im (.tuple (iL cs)), .im (.list (iL (nL (opL P cap f cs))))]) (c1 := (0, 0)) (by simp [et]) ?_
    exact .ret (c1 := (0, 0)) (by simp [e3, cut_last, nL_dropLast]) rfl
  · rw [if_neg hp] at et ⊢
    have e3 : isND .none .none = some (.bool true) := rfl
    refine .seq (ρ1 := [.im (.int P), .im (.int cap), .im (.int f), .im (.tuple (iL cs)), .im .none]) (c1 := (0, 0)) (by simp [et]) ?_
    exact .ret (c1 := (0, 0)) (by simp [e3]) rfl
/-- open threads that are not looked at -/
def unl (P cap f : Nat) (cs : List Int) (xs : List Nat) : List Nat := (opL P cap f cs).filter fun t => !(xs.any fun x => decide (x % f = t))
theorem fm_if2 {p : Nat → Bool} : ∀ l : List Nat, (iL (nL l)).filterMap (fun d => match d with | .int t => (if p t.toNat = true then some (PyData.int t) else none) | _ => none) = iL (nL (l.filter p))
  | [] => rfl
  | x :: l => by
    have e0 : iL (nL (x :: l)) = PyData.int (x : Nat) :: iL (nL l) := rfl
    rw [e0, List.filterMap_cons, List.filter_cons, fm_if2 l]
    simp only [Int.toNat_natCast]
    by_cases e : p x = true
    · rw [if_pos e, if_pos e]; rfl
    · rw [if_neg e, if_neg e]
theorem all_true {α : Type} {xs : List α} : allD [.list (xs.map fun _ => PyData.bool true)] = some (.bool true) := by
  have e : (xs.map fun _ => PyData.bool true) = (xs.map fun _ => true).map PyData.bool := by rw [List.map_map]; rfl
  rw [e, allD_b]
  simp
theorem F_are_looks_eq (h : Ask P cap f cs) (hp : 0 < fitV P cap f (gI cs)) {xs : List Nat} (hx : xs.Pairwise (· < ·)) (hb : ∀ x ∈ xs, x < P) (hlen : xs.length ≤ 1000) : F_are_looks [.int P, .int cap, .int f, .tuple (iL cs), .tuple (iL (nL xs))] = some (.bool (decide ((unl P cap f cs xs).length < 2))) := by
  have et := F_open_threads_eq h
  rw [if_pos hp] at et
  have hP := h.P24
  have hf1 := h.f1
  have hfP := h.fP
  have hol := opL_len (P := P) (cap := cap) (f := f) (cs := cs)
  have fo : few (opL P cap f cs).length = true := few_of (by omega)
  have fx : few xs.length = true := few_of (by omega)
  have fx1 : few (min xs.length (xs.length - 1)) = true := few_of (by omega)
  have e0 : isB .tuple (.tuple (iL (nL xs))) = true := rfl
  have fx2 : few (xs.length - 1) = true := few_of (by omega)
  have e3 : isND (.list (iL (nL (opL P cap f cs)))) .none = some (.bool false) := rfl
  have nl : (nL xs).length = xs.length := by unfold nL; simp
  have nlo : (nL (opL P cap f cs)).length = (opL P cap f cs).length := by unfold nL; simp
  refine bodyP_of rfl ?_
  unfold S_are_looks
  have l1 := lcS_map (tg := qN 6) (e := sCall F_is_between (sCons (sV 6) (sCons (sC (.int 0)) (sCons (sOp subD (sV 0) (sC (.int 1))) sNil)))) (ρ0 := [.im (.int P), .im (.int cap), .im (.int f), .im (.tuple (iL cs)), .im (.tuple (iL (nL xs))), .un, .un, .un, .un]) (xs := iL (nL xs)) (c := (0, 0)) (fun _ => .bool true) (fun x hx => by
    obtain ⟨y, hy, rfl⟩ := List.mem_map.mp hx
    obtain ⟨z, hz, rfl⟩ := List.mem_map.mp hy
    have := hb z hz
    have eb := F_is_between_eq (x := (z : Int)) (lo := 0) (hi := (P : Int) - 1)
    rw [show (decide ((0 : Int) ≤ z) && decide ((z : Int) ≤ (P : Int) - 1)) = true by simp; omega] at eb
    exact ⟨_, rfl, by simp [eb]⟩)
  refine .pass (c1 := (0, 0)) (by simp [e0, fx, nl, l1, all_true]) ?_
  have hz : (zipL (iL (nL xs)) (cutL (iL (nL xs)) (some 1) none)).length = min xs.length (xs.length - 1) := by
    rw [zipL_len, cut_1, List.length_drop, iL_len, nl]
  have l2 := lcS_map (tg := qTup (qCons (qN 6) (qCons (qN 7) qNil))) (e := sOp ltD (sV 6) (sV 7)) (ρ0 := [.im (.int P), .im (.int cap), .im (.int f), .im (.tuple (iL cs)), .im (.tuple (iL (nL xs))), .un, .un, .un, .un]) (xs := zipL (iL (nL xs)) (cutL (iL (nL xs)) (some 1) none)) (c := (0, 0)) (fun _ => .bool true) (fun x hx' => by
    obtain ⟨i, hi, e⟩ := List.getElem_of_mem hx'
    obtain ⟨a, b, ea, eb, ed⟩ := zipL_get (i := i) (d := x) (by rw [List.getElem?_eq_getElem hi, e])
    rw [hz] at hi
    have h1 : i < xs.length := by omega
    have h2 : i + 1 < xs.length := by omega
    rw [cut_1, List.getElem?_drop, Nat.add_comm] at eb
    have g : ∀ j (hj : j < xs.length), (iL (nL xs))[j]? = some (PyData.int ((xs[j] : Nat) : Int)) := fun j hj => by
      unfold iL nL
      rw [List.getElem?_map, List.getElem?_map, List.getElem?_eq_getElem hj]; rfl
    rw [g i h1] at ea
    rw [g (i + 1) h2] at eb
    cases ea; cases eb
    have hlt : xs[i] < xs[i + 1] := List.pairwise_iff_getElem.mp hx i (i + 1) h1 h2 (by omega)
    rw [ed]
    exact ⟨_, rfl, by simp; exact hlt⟩)
  refine .pass (c1 := (0, 0)) (by simp [hz, fx1, fx2, l2, all_true]) ?_
  refine .seq (ρ1 := [.im (.int P), .im (.int cap), .im (.int f), .im (.tuple (iL cs)), .im (.tuple (iL (nL xs))), .im (.list (iL (nL (opL P cap f cs)))), .un, .un, .un]) (c1 := (0, 0)) (by simp [et]) ?_
  refine .pass (c1 := (0, 0)) (by simp [e3]) ?_
  have l3 := lcS_run (tg := qN 8) (t := sNot (sB (sCB anyD (sCons (sOfL (sLc (sItT (sV 4)) (qN 6) sYes (sOp eqD (sOp modD (sV 6) (sV 2)) (sV 8)) [6])) sNil)))) (e := sV 8) (ρ0 := [.im (.int P), .im (.int cap), .im (.int f), .im (.tuple (iL cs)), .im (.tuple (iL (nL xs))), .im (.list (iL (nL (opL P cap f cs)))), .un, .un, .un]) (xs := iL (nL (opL P cap f cs))) (c := (0, 0)) (fun d => match d with | .int t => (if (!(xs.any fun x => decide (x % f = t.toNat))) = true then some (PyData.int t) else none) | _ => none) (fun x hx => by
    obtain ⟨y, hy, rfl⟩ := List.mem_map.mp hx
    obtain ⟨t, ht, rfl⟩ := List.mem_map.mp hy
    refine ⟨_, rfl, ?_⟩
    have l4 := lcS_map (tg := qN 6) (e := sOp eqD (sOp modD (sV 6) (sV 2)) (sV 8)) (ρ0 := [.im (.int P), .im (.int cap), .im (.int f), .im (.tuple (iL cs)), .im (.tuple (iL (nL xs))), .im (.list (iL (nL (opL P cap f cs)))), .un, .un, .im (.int (t : Nat))]) (xs := iL (nL xs)) (c := (0, 0)) (fun d => match d with | .int x => .bool (decide (x.toNat % f = t)) | d => d) (fun x hx => by
      obtain ⟨y, hy, rfl⟩ := List.mem_map.mp hx
      obtain ⟨z, hz, rfl⟩ := List.mem_map.mp hy
      have e5 : modD (.int (z : Nat)) (.int (f : Nat)) = some (.int ((z % f : Nat) : Int)) := by
        rw [modI (by omega), Int.natCast_emod]
      have e6 : eqD (.int ((z % f : Nat) : Int)) (.int (t : Nat)) = some (.bool (decide (z % f = t))) := by
        rw [eqD_int]
        congr 2
        exact decide_eq_decide.mpr ⟨fun w => by omega, fun w => by omega⟩
      refine ⟨_, rfl, ?_⟩
      simp only [ev_sOp, ev_sV, Int.toNat_natCast]
      simp only [List.set_cons_succ, List.set_cons_zero, List.getElem?_cons_succ, List.getElem?_cons_zero, Option.bind_some]
      rw [e5]
      simp only [Option.bind_some]
      rw [e6]
      rfl)
    have e7 : (iL (nL xs)).map (fun d => match d with | .int x => PyData.bool (decide (x.toNat % f = t)) | d => d) = (xs.map fun x => decide (x % f = t)).map PyData.bool := by
      unfold iL nL
      rw [List.map_map, List.map_map, List.map_map]
      rfl
    rw [e7] at l4
    have e8 := anyD_b (bs := xs.map fun x => decide (x % f = t))
    rw [List.any_map] at e8
    have e9 : (xs.any (id ∘ fun x => decide (x % f = t))) = xs.any fun x => decide (x % f = t) := rfl
    rw [e9] at e8
    simp only [Int.toNat_natCast]
    by_cases hq : (xs.any fun x => decide (x % f = t)) = true
    · rw [show (if (!(xs.any fun x => decide (x % f = t))) = true then some (PyData.int (t : Nat)) else none) = none from if_neg (by rw [hq]; decide)]
      rw [hq] at e8
      simp [fx, nl, l4, e8, -List.map_map]
    · have hq := Bool.not_eq_true _ |>.mp hq
      rw [show (if (!(xs.any fun x => decide (x % f = t))) = true then some (PyData.int (t : Nat)) else none) = some (PyData.int (t : Nat)) from if_pos (by rw [hq]; decide)]
      rw [hq] at e8
      simp [fx, nl, l4, e8, -List.map_map])
  have e10 : (nL (unl P cap f cs xs)).length = (unl P cap f cs xs).length := by unfold nL; simp
  have hl2 : (iL (nL (unl P cap f cs xs))).length = (unl P cap f cs xs).length := by rw [iL_len, e10]
  refine .ret (c1 := (0, 0)) (d := .bool (decide ((unl P cap f cs xs).length < 2))) ?_ rfl
  have l5 : lcS (qN 8) (sNot (sB (sCB anyD (sCons (sOfL (sLc (sItT (sV 4)) (qN 6) sYes (sOp eqD (sOp modD (sV 6) (sV 2)) (sV 8)) [6])) sNil)))) (sV 8) [.im (.int P), .im (.int cap), .im (.int f), .im (.tuple (iL cs)), .im (.tuple (iL (nL xs))), .im (.list (iL (nL (opL P cap f cs)))), .un, .un, .un] (iL (nL (opL P cap f cs))) (0, 0) = some (iL (nL (unl P cap f cs xs)), (0, 0)) := l3.trans (congrArg (fun z => some (z, ((0 : Int), (0 : Int)))) (fm_if2 (p := fun t => !(xs.any fun x => decide (x % f = t))) _))
  simp only [ev_sOp, ev_sCB, ev_sCons, ev_sNil, ev_sOfL, ev_sLc, ev_sItL, ev_sV, ev_sC, List.getElem?_cons_succ, List.getElem?_cons_zero, Option.bind_some, iL_len, nlo, fo, if_true, ev_wipe1, ev_wipe0, List.set_cons_succ, List.set_cons_zero]
  rw [l5]
  simp [e10]
  omega
/-! what is not looked at -/
theorem opL_bd {t : Nat} (h : t ∈ opL P cap f cs) : t < f := (opL_mem.mp h).1
theorem unl_mod {xs : List Nat} (hs : ∀ x ∈ xs, x ∈ opL P cap f cs) {t : Nat} : (xs.any fun x => decide (x % f = t)) = true ↔ t ∈ xs := by
  rw [List.any_eq_true]
  constructor
  · rintro ⟨x, hx, e⟩
    have := opL_bd (hs x hx)
    rw [decide_eq_true_eq, Nat.mod_eq_of_lt this] at e
    subst e; exact hx
  · intro ht
    exact ⟨t, ht, by rw [decide_eq_true_eq, Nat.mod_eq_of_lt (opL_bd (hs t ht))]⟩
theorem unl_looks : (unl P cap f cs (opL P cap f cs).dropLast).length < 2 := by
  have hm : ∀ t, ((opL P cap f cs).dropLast.any fun x => decide (x % f = t)) = true ↔ t ∈ (opL P cap f cs).dropLast := fun t => unl_mod (fun x hx => List.dropLast_subset _ hx)
  unfold unl
  by_cases e : opL P cap f cs = []
  · rw [e]; simp
  · have := List.dropLast_concat_getLast e
    rw [show List.filter _ (opL P cap f cs) = List.filter (fun t => !((opL P cap f cs).dropLast.any fun x => decide (x % f = t))) ((opL P cap f cs).dropLast ++ [(opL P cap f cs).getLast e]) by rw [this]]
    rw [List.filter_append, List.length_append]
    have e1 : List.filter (fun t => !((opL P cap f cs).dropLast.any fun x => decide (x % f = t))) (opL P cap f cs).dropLast = [] := by
      rw [List.filter_eq_nil_iff]
      intro t ht
      rw [(hm t).mpr ht]
      simp
    rw [e1]
    have := List.length_filter_le (fun t => !((opL P cap f cs).dropLast.any fun x => decide (x % f = t))) [(opL P cap f cs).getLast e]
    simp at this ⊢
    omega
theorem unl_mono {xs ys : List Nat} (h : ∀ x ∈ xs, x ∈ ys) : (unl P cap f cs ys).length ≤ (unl P cap f cs xs).length := by
  unfold unl
  rw [← List.countP_eq_length_filter, ← List.countP_eq_length_filter]
  refine List.countP_mono_left fun t _ ht => ?_
  rw [Bool.not_eq_true'] at ht ⊢
  rw [← Bool.not_eq_true] at ht ⊢
  refine fun z => ht ?_
  obtain ⟨x, hx, e⟩ := List.any_eq_true.mp z
  exact List.any_eq_true.mpr ⟨x, h x hx, e⟩
theorem unl_less (h : (opL P cap f cs).dropLast ≠ []) : 2 ≤ (unl P cap f cs ((opL P cap f cs).dropLast.drop 1)).length := by
  have hp := opL_lt (P := P) (cap := cap) (f := f) (cs := cs)
  have hm : ∀ t, (((opL P cap f cs).dropLast.drop 1).any fun x => decide (x % f = t)) = true ↔ t ∈ (opL P cap f cs).dropLast.drop 1 := fun t => unl_mod (fun x hx => List.dropLast_subset _ (List.drop_subset _ _ hx))
  unfold unl
  generalize opL P cap f cs = l at *
  cases l with
  | nil => exact absurd rfl h
  | cons a r =>
    by_cases er : r = []
    · subst er; exact absurd rfl h
    · have e1 : (a :: r).dropLast.drop 1 = r.dropLast := by
        rw [List.dropLast_cons_of_ne_nil er]; rfl
      rw [e1] at hm ⊢
      have e2 := List.dropLast_concat_getLast er
      have ha : a ∉ r.dropLast := fun z => by
        have := (List.pairwise_cons.mp hp).1 a (List.dropLast_subset _ z)
        omega
      have hb : r.getLast er ∉ r.dropLast := fun z => by
        have h2 := (List.pairwise_cons.mp hp).2
        rw [← e2] at h2
        have := (List.pairwise_append.mp h2).2.2 _ z (r.getLast er) (by simp)
        omega
      have fa : (!(r.dropLast.any fun x => decide (x % f = a))) = true := by
        rw [Bool.not_eq_true', ← Bool.not_eq_true]
        exact fun z => ha ((hm a).mp z)
      have fb : (!(r.dropLast.any fun x => decide (x % f = r.getLast er))) = true := by
        rw [Bool.not_eq_true', ← Bool.not_eq_true]
        exact fun z => hb ((hm _).mp z)
      rw [List.filter_cons, if_pos fa, List.length_cons]
      have hin : r.getLast er ∈ List.filter (fun t => !(r.dropLast.any fun x => decide (x % f = t))) r := List.mem_filter.mpr ⟨List.getLast_mem er, fb⟩
      have := List.length_pos_of_mem hin
      omega
end
end X
namespace X
open PySem PySem.Spec L2 DL DM
def Small (d : D) : Prop := ∃ P cap f : Nat, d = .tuple [.int P, .int cap, .int f] ∧ 1 ≤ f ∧ f ≤ 9 ∧ f ≤ P ∧ P ≤ 24 ∧ 1 ≤ cap ∧ cap ≤ 9 ∧ f * cap ≤ 18 ∧ (cap + 1) ^ f ≤ 1000
theorem F_l_small_eq {c : Dr} (hc : OkDr c) : ∃ d c', F_l_small [] c = some (d, c') ∧ Small d ∧ OkDr c' := by
  obtain ⟨d, c1, e1, hd, ok1⟩ := F_l_of_eq (ds := [.tuple [.int 1, .int 9], .tuple [.int 2, .int 5], .tuple [.int 3, .int 4], .tuple [.int 9, .int 2], .tuple [.int 5, .int 3], .tuple [.int 1, .int 5], .tuple [.int 2, .int 3], .tuple [.int 4, .int 1]]) (c := c) (by decide) (by decide) hc
  have hd' : ∃ cap fr : Nat, d = .tuple [.int cap, .int fr] ∧ 1 ≤ cap ∧ cap ≤ 9 ∧ 1 ≤ fr ∧ fr ≤ 9 ∧ fr * cap ≤ 18 ∧ (cap + 1) ^ fr ≤ 1000 := by
    simp only [List.mem_cons, List.not_mem_nil, or_false] at hd
    rcases hd with h | h | h | h | h | h | h | h
    · exact ⟨1, 9, h, by decide⟩
    · exact ⟨2, 5, h, by decide⟩
    · exact ⟨3, 4, h, by decide⟩
    · exact ⟨9, 2, h, by decide⟩
    · exact ⟨5, 3, h, by decide⟩
    · exact ⟨1, 5, h, by decide⟩
    · exact ⟨2, 3, h, by decide⟩
    · exact ⟨4, 1, h, by decide⟩
  obtain ⟨cap, fr, rfl, hcap, hcap2, hfr, hfr2, hm, hpow⟩ := hd'
  obtain ⟨d2, c2, e2, r, rfl, r0, r1, ok2⟩ := F_l_draw_eq (m := (fr : Int)) (c := c1) (by omega) (by omega) ok1
  obtain ⟨r, rfl⟩ : ∃ k : Nat, r = k := ⟨r.toNat, by omega⟩
  obtain ⟨d3, c3, e3, q, rfl, q0, q1, ok3⟩ := F_l_draw_eq (m := 25 - (1 + (r : Int))) (c := c2) (by omega) (by omega) ok2
  obtain ⟨q, rfl⟩ : ∃ k : Nat, q = k := ⟨q.toNat, by omega⟩
  refine bodyD_of (P := fun d c' => Small d ∧ OkDr c') rfl ?_
  unfold S_l_small
  refine ⟨(.rt (.tuple [.int (1 + r + q), .int cap, .int (1 + r)]), [.dr, .im (.int cap), .im (.int (1 + r))], c3), ?_, _, rfl, ⟨1 + r + q, cap, 1 + r, by simp, by omega, by omega, by omega, by omega, hcap, hcap2, ?_, ?_⟩, ok3⟩
  · simp [few, e1, e2, e3]
  · exact Nat.le_trans (Nat.mul_le_mul_right cap (by omega : 1 + r ≤ fr)) hm
  · exact Nat.le_trans (Nat.pow_le_pow_right (by omega) (by omega : 1 + r ≤ fr)) hpow
theorem F_l_grown_eq {P f : Nat} {cs fs : List Int} (hf : 1 ≤ f) (hP : f ≤ P) (h24 : P ≤ 1000) (hc : cs.length = P - f + 1) (hl : fs.length = f) : F_l_grown [.int P, .int f, .tuple (iL cs), .tuple (iL fs)] = some (.tuple (iL (GL P f cs fs))) := by
  refine bodyP_of rfl ?_
  unfold S_l_grown
  refine .seq (ρ1 := [.im (.int P), .im (.int f), .im (.tuple (iL cs)), .im (.tuple (iL fs)), .ol (iL (GL f f cs fs)), .un, .un]) (c1 := (0, 0)) (by simp [GL_first hl]) ?_
  refine .seq (for_run (c1 := (0, 0)) (xs := rngL f (P - f)) (st := fun i => [.im (.int P), .im (.int f), .im (.tuple (iL cs)), .im (.tuple (iL fs)), .ol (iL (GL (f + i) f cs fs)), .un, .un]) ?_ rfl fun i x hx => ?_) ?_
  · have e1 : okR (f : Int) = true := okR_of (by omega) (by omega)
    have e2 : okR (P : Int) = true := okR_of (by omega) (by omega)
    have e3 : ((P : Int) - (f : Int)).toNat = P - f := by omega
    simp [e1, e2, e3]
  · obtain ⟨hi, rfl⟩ := rngL_lt hx
    refine ⟨_, rfl, then_run (ρ1 := [.im (.int P), .im (.int f), .im (.tuple (iL cs)), .im (.tuple (iL fs)), .ol (iL (GL (f + i + 1) f cs fs)), .im (.int (f + i)), .im (.int i)]) ?_ rfl⟩
    have e0 : ((f : Int) + i - f) = (i : Int) := by omega
    have e1 : atI (iL (GL (f + i) f cs fs)) (i : Int) = some (.int (gI fs (i % f) + Rf f (gI cs) i)) := by rw [atI_iL (by rw [GL_len]; omega), GL_get (by omega)]
    have e2 : atI (iL cs) ((i : Int) + 1) = some (.int (gI cs (i + 1))) := atI_iL (j := i + 1) (by omega)
    have e3 : atI (iL cs) (i : Int) = some (.int (gI cs i)) := atI_iL (by omega)
    have e4 : iL (GL (f + i + 1) f cs fs) = iL (GL (f + i) f cs fs) ++ [.int (gI fs (i % f) + Rf f (gI cs) i + gI cs (i + 1) - gI cs i)] := by
      unfold GL
      rw [List.range_succ, List.map_append, iL_app, List.map_singleton, Rf_step hf, Nat.add_mod_left]
      show _ = _ ++ iL [_]
      rw [show gI fs (i % f) + (Rf f (gI cs) i + gI cs (i + 1) - gI cs i) = gI fs (i % f) + Rf f (gI cs) i + gI cs (i + 1) - gI cs i by omega]
    have e5 : few (f + i) = true := few_of (by omega)
    simp [e0, e1, e2, e3, e4, e5, GL_len]
  · rw [rngL_len, show f + (P - f) = P by omega]
    exact .frz rfl (.ret (d := .tuple (iL (GL P f cs fs))) (c1 := (0, 0)) (by simp) rfl)
section
variable {P cap f : Nat} {cs : List Int}
def ltD' (lot : List Int) : D := .tuple (iL lot)
theorem take_lots {n : Nat} {L : List (List Int)} : (L.map ltD').length = L.length := by rw [List.length_map]
theorem minL_ge {xs : List Int} (h : xs ≠ []) {k : Int} : k ≤ minL xs ↔ ∀ x ∈ xs, k ≤ x := by
  obtain ⟨h1, h2⟩ := minL_spec h
  exact ⟨fun z x hx => Int.le_trans z (h2 x hx), fun z => z _ h1⟩
theorem maxL_le {xs : List Int} (h : xs ≠ []) {k : Int} : maxL xs ≤ k ↔ ∀ x ∈ xs, x ≤ k := by
  obtain ⟨h1, h2⟩ := maxL_spec h
  exact ⟨fun z x hx => Int.le_trans (h2 x hx) z, fun z => z _ h1⟩
theorem rowG_ne (hP : 1 ≤ P) {lot : List Int} : rowG P f cs lot ≠ [] := fun z => by
  have := rowG_len (P := P) (f := f) (cs := cs) (fs := lot)
  rw [z] at this
  simp at this
  omega
theorem okV_minmax (hf : 1 ≤ f) (hP : f ≤ P) {lot : List Int} (hl : lot.length = f) : okV P cap f cs lot = (decide (lot.sum = gI cs 0) && (decide (0 ≤ minL (rowG P f cs lot)) && decide (maxL (rowG P f cs lot) ≤ cap))) := by
  rw [Bool.eq_iff_iff, okV_iff hf hP hl]
  simp only [Bool.and_eq_true, decide_eq_true_eq]
  rw [minL_ge (rowG_ne (by omega)), maxL_le (rowG_ne (by omega))]
  constructor
  · rintro ⟨h1, h2⟩
    refine ⟨h2, fun x hx => ?_, fun x hx => ?_⟩
    · obtain ⟨p, hp, rfl⟩ := List.mem_map.mp hx; exact (h1 p (List.mem_range.mp hp)).1
    · obtain ⟨p, hp, rfl⟩ := List.mem_map.mp hx; exact (h1 p (List.mem_range.mp hp)).2
  · rintro ⟨h2, h3, h4⟩
    refine ⟨fun p hp => ⟨?_, ?_⟩, h2⟩
    · exact h3 _ (List.mem_map_of_mem (List.mem_range.mpr hp))
    · exact h4 _ (List.mem_map_of_mem (List.mem_range.mpr hp))
def rwD (P f : Nat) (cs lot : List Int) : D := .tuple (iL (rowG P f cs lot))
theorem F_l_rows_eq (h : Ask P cap f cs) (hc : (cap + 1) ^ f ≤ 1000) : F_l_rows [.int P, .int cap, .int f, .tuple (iL cs)] = some (.list ((VL P cap f cs).map (rwD P f cs))) := by
  obtain ⟨f1, fP, P24, c9, hlen, hcb⟩ := id h
  have ll : ∀ n, n ≤ f → (lotsN cap n).length ≤ 1000 := fun n hn => by
    rw [lots_len]
    exact Nat.le_trans (Nat.pow_le_pow_right (by omega) hn) hc
  have f0 : few 0 = true := by decide
  have f1' : few 1 = true := by decide
  refine bodyP_of rfl ?_
  unfold S_l_rows
  refine .seq (ρ1 := [.im (.int P), .im (.int cap), .im (.int f), .im (.tuple (iL cs)), .ol [], .im (.list ((lotsN cap 0).map ltD')), .un, .un, .un, .un, .un]) (c1 := (0, 0)) (by simp [f0, f1']; rfl) ?_
  refine .seq (for_run (c1 := (0, 0)) (xs := rngL 0 f) (st := fun i => [.im (.int P), .im (.int cap), .im (.int f), .im (.tuple (iL cs)), .ol [], .im (.list ((lotsN cap i).map ltD')), .un, .un, .un, .un, .un]) (by simp [okR_of (show (-1000000 : Int) ≤ f by omega) (by omega)]) rfl fun i x hx => ?_) ?_
  · obtain ⟨hi, rfl⟩ := rngL_lt hx
    refine ⟨_, rfl, then_run (ρ1 := [.im (.int P), .im (.int cap), .im (.int f), .im (.tuple (iL cs)), .ol [], .im (.list ((lotsN cap (i + 1)).map ltD')), .im (.int (0 + i)), .im (.list ((lotsN cap (i + 1)).map ltD')), .un, .un, .un]) ?_ rfl⟩
    refine seq_run (ρ1 := [.im (.int P), .im (.int cap), .im (.int f), .im (.tuple (iL cs)), .ol [], .im (.list ((lotsN cap i).map ltD')), .im (.int (0 + i)), .im (.list ((((lotsN cap i).take 0).flatMap fun lot => (List.range (cap + 1)).map fun (x : Nat) => lot ++ [(x : Int)]).map ltD')), .un, .un, .un]) (c1 := (0, 0)) (by simp [f0]) ?_
    refine seq_run (for_run (c1 := (0, 0)) (xs := (lotsN cap i).map ltD') (st := fun j => [.im (.int P), .im (.int cap), .im (.int f), .im (.tuple (iL cs)), .ol [], .im (.list ((lotsN cap i).map ltD')), .im (.int (0 + i)), .im (.list ((((lotsN cap i).take j).flatMap fun lot => (List.range (cap + 1)).map fun (x : Nat) => lot ++ [(x : Int)]).map ltD')), .un, .un, .un]) (by simp) rfl fun j y hy => ?_) ?_
    · rw [List.getElem?_map] at hy
      obtain ⟨lot, hlot, rfl⟩ := Option.map_eq_some_iff.mp hy
      have hll := (mem_lots.mp (List.mem_of_getElem? hlot)).1
      refine ⟨_, rfl, then_run (ρ1 := [.im (.int P), .im (.int cap), .im (.int f), .im (.tuple (iL cs)), .ol [], .im (.list ((lotsN cap i).map ltD')), .im (.int (0 + i)), .im (.list ((((lotsN cap i).take (j + 1)).flatMap fun lot => (List.range (cap + 1)).map fun (x : Nat) => lot ++ [(x : Int)]).map ltD')), .im (ltD' lot), .un, .un]) ?_ rfl⟩
      rw [take_succ_get hlot, List.flatMap_append, List.map_append]
      generalize hA : (((lotsN cap i).take j).flatMap fun lot => (List.range (cap + 1)).map fun (x : Nat) => lot ++ [(x : Int)]).map ltD' = A
      have hAl : A.length ≤ 1000 := by
        rw [← hA, List.length_map]
        have e1 : ∀ L : List (List Int), (L.flatMap fun lot => (List.range (cap + 1)).map fun (x : Nat) => lot ++ [(x : Int)]).length = L.length * (cap + 1) := fun L => by
          induction L with
          | nil => simp
          | cons l L ih => rw [List.flatMap_cons, List.length_append, ih, List.length_map, List.length_range, List.length_cons, Nat.add_mul, Nat.one_mul, Nat.add_comm]
        rw [e1]
        have e2 := ll (i + 1) (by omega)
        rw [lots_len, Nat.pow_succ, ← lots_len] at e2
        exact Nat.le_trans (Nat.mul_le_mul_right _ (List.length_take_le' _ _)) e2
      have ec := lcS_map (tg := qN 10) (e := sOp addD (sV 8) (sTup (sCons (sV 10) sNil))) (ρ0 := [.im (.int P), .im (.int cap), .im (.int f), .im (.tuple (iL cs)), .ol [], .im (.list ((lotsN cap i).map ltD')), .im (.int (0 + i)), .im (.list A), .im (ltD' lot), .un, .un]) (xs := rngL 0 (cap + 1)) (c := (0, 0)) (fun d => match d with | .int k => .tuple (iL (lot ++ [k])) | d => d) (fun x hx => by
        obtain ⟨s, hs, rfl⟩ := rng_mem hx
        refine ⟨_, rfl, ?_⟩
        have e1 : few (lot.length + 1) = true := few_of (by omega)
        have e2 : iL lot ++ [PyData.int s] = iL (lot ++ [(s : Int)]) := by rw [iL_app]; rfl
        simp only [Int.zero_add]
        simp [ltD', f1', e1, e2])
      have ed : (rngL 0 (cap + 1)).map (fun d => match d with | .int k => PyData.tuple (iL (lot ++ [k])) | d => d) = ((List.range (cap + 1)).map fun (x : Nat) => lot ++ [(x : Int)]).map ltD' := by
        unfold rngL
        rw [List.map_map, List.map_map]
        refine List.map_congr_left fun p _ => ?_
        show PyData.tuple (iL (lot ++ [0 + (p : Int)])) = PyData.tuple (iL (lot ++ [(p : Int)]))
        rw [Int.zero_add]
      rw [ed] at ec
      have e3 : few (A.length + (cap + 1)) = true := few_of (by omega)
      have e4 : okR ((cap : Int) + 1) = true := okR_of (by omega) (by omega)
      have e5 : few (cap + 1) = true := few_of (by omega)
      have e6 : ((cap : Int) + 1).toNat = cap + 1 := by omega
      have e7 : [lot].flatMap (fun lot => (List.range (cap + 1)).map fun (x : Nat) => lot ++ [(x : Int)]) = (List.range (cap + 1)).map fun (x : Nat) => lot ++ [(x : Int)] := by simp
      rw [e7]
      have e8 : (((List.range (cap + 1)).map fun (x : Nat) => lot ++ [(x : Int)]).map ltD').length = cap + 1 := by simp
      generalize ((List.range (cap + 1)).map fun (x : Nat) => lot ++ [(x : Int)]).map ltD' = Bq at ec e8 ⊢
      simp only [Int.zero_add] at ec
      simp [e3, e4, e5, e6, rngL_len, ec, e8]
    · rw [List.length_map, List.take_length]
      simp
      rfl
  · rw [rngL_len]
    refine .seq (for_run (c1 := (0, 0)) (xs := (lotsN cap f).map ltD') (st := fun j => [.im (.int P), .im (.int cap), .im (.int f), .im (.tuple (iL cs)), .ol ((((lotsN cap f).take j).filter (okV P cap f cs)).map (rwD P f cs)), .im (.list ((lotsN cap f).map ltD')), .un, .un, .un, .un, .un]) (by simp) rfl fun j y hy => ?_) ?_
    · rw [List.getElem?_map] at hy
      obtain ⟨lot, hlot, rfl⟩ := Option.map_eq_some_iff.mp hy
      have hll := (mem_lots.mp (List.mem_of_getElem? hlot)).1
      refine ⟨_, rfl, ?_⟩
      rw [take_succ_get hlot, List.filter_append, List.map_append]
      generalize hA : (((lotsN cap f).take j).filter (okV P cap f cs)).map (rwD P f cs) = A
      have hAl : few A.length = true := few_of (by
        rw [← hA, List.length_map]
        refine Nat.le_trans (List.length_filter_le _ _) (Nat.le_trans (List.length_take_le' _ _) ?_)
        have := ll f (Nat.le_refl _)
        omega)
      have es := sumA_T (xs := lot)
      have eq : eqD (.int lot.sum) (.int (gI cs 0)) = some (.bool (decide (lot.sum = gI cs 0))) := eqD_int
      have eg : F_l_grown [.int P, .int f, .tuple (iL cs), .tuple (iL lot)] = some (rwD P f cs lot) := F_l_grown_eq f1 fP (by omega) hlen hll
      have e1 := minS_T (rowG_ne (P := P) (f := f) (cs := cs) (lot := lot) (by omega))
      have e2 := maxS_T (rowG_ne (P := P) (f := f) (cs := cs) (lot := lot) (by omega))
      have eo := okV_minmax (P := P) (cap := cap) (cs := cs) f1 fP hll
      refine then_run (ρ1 := [.im (.int P), .im (.int cap), .im (.int f), .im (.tuple (iL cs)), .ol (A ++ ([lot].filter (okV P cap f cs)).map (rwD P f cs)), .im (.list ((lotsN cap f).map ltD')), .un, .un, .im (ltD' lot), .un, .un]) ?_ rfl
      by_cases g1 : lot.sum = gI cs 0
      · refine DL.ifT (c1 := (0, 0)) (by simp [ltD', es, c0_at h, eq, g1]; rw [← g1] at eq ⊢; simp [eq]) ?_
        refine then_run (ρ1 := [.im (.int P), .im (.int cap), .im (.int f), .im (.tuple (iL cs)), .ol (A ++ ([lot].filter (okV P cap f cs)).map (rwD P f cs)), .im (.list ((lotsN cap f).map ltD')), .un, .un, .im (ltD' lot), .im (rwD P f cs lot), .un]) ?_ rfl
        refine seq_run (ρ1 := [.im (.int P), .im (.int cap), .im (.int f), .im (.tuple (iL cs)), .ol A, .im (.list ((lotsN cap f).map ltD')), .un, .un, .im (ltD' lot), .im (rwD P f cs lot), .un]) (c1 := (0, 0)) ?_ ?_
        · have : ltD' lot = .tuple (iL lot) := rfl
          rw [this]
          simp [eg]
        · rw [decide_eq_true g1, Bool.true_and] at eo
          by_cases g2 : 0 ≤ minL (rowG P f cs lot)
          · by_cases g3 : maxL (rowG P f cs lot) ≤ cap
            · have : okV P cap f cs lot = true := by rw [eo]; simp [g2, g3]
              rw [List.filter_cons_of_pos this]
              simp [rwD, e1, e2, g2, g3, hAl]
            · have : ¬ okV P cap f cs lot = true := by rw [eo]; simp [g2, g3]
              rw [List.filter_cons_of_neg this]
              simp [rwD, e1, e2, g2, g3]
          · have : ¬ okV P cap f cs lot = true := by rw [eo]; simp [g2]
            rw [List.filter_cons_of_neg this]
            simp [rwD, e1, g2]
      · have : ¬ okV P cap f cs lot = true := by rw [eo]; simp [g1]
        rw [List.filter_cons_of_neg this]
        refine DL.ifF (c1 := (0, 0)) (by simp [ltD', es, c0_at h, eq, g1]) ?_
        simp
    · rw [List.length_map, List.take_length]
      exact .frz rfl (.ret rfl rfl)
end
end X
namespace X
open PySem PySem.Spec L2 DL DM
theorem txt_few : txtOk 10 "few" = true ∧ txtOk 10 "many" = true ∧ txtOk 10 "thread" = true ∧ txtOk 10 "" = true ∧ txtOk 10 "a" = true := by decide +kernel
/-- the short list of things -/
def baseL : List D := [.int 0, .int 1, .int (-1), .bool true, .bool false, .none, .str "", .str "few", .str "many", .str "thread", .int (10 ^ 39), .int 24, .tuple [.int 0, .int 1], .tuple [.int 1, .int 0], .tuple [.str "few", .int 0], .tuple [.str "many", .int 3]]
def moreL : List D := [.tuple [], .list [], .tuple [.int 0], .tuple [.str "thread", .int 0, .int 1], .tuple [.int 1, .tuple [.int 0, .int 0]], .tuple [.bool true], .tuple [.tuple [.int 1, .tuple [.int 1]]]]
theorem base_gd : ∀ d ∈ baseL ++ moreL, Gd 10 3 d := by
  obtain ⟨t1, t2, t3, t4, t5⟩ := txt_few
  intro d hd
  have T0 : ∀ xs : List D, xs.length ≤ 10 → (∀ y ∈ xs, Gd 10 2 y) → Gd 10 3 (.tuple xs) := fun xs a b => gd_tuple a b
  have T1 : ∀ xs : List D, xs.length ≤ 10 → (∀ y ∈ xs, Gd 10 1 y) → Gd 10 2 (.tuple xs) := fun xs a b => gd_tuple a b
  have T2 : ∀ xs : List D, xs.length ≤ 10 → (∀ y ∈ xs, Gd 10 0 y) → Gd 10 1 (.tuple xs) := fun xs a b => gd_tuple a b
  simp only [baseL, moreL, List.mem_append, List.mem_cons, List.not_mem_nil, or_false] at hd
  rcases hd with (rfl | rfl | rfl | rfl | rfl | rfl | rfl | rfl | rfl | rfl | rfl | rfl | rfl | rfl | rfl | rfl) | (rfl | rfl | rfl | rfl | rfl | rfl | rfl)
  · exact gd_int
  · exact gd_int
  · exact gd_int
  · exact gd_bool
  · exact gd_bool
  · exact gd_none
  · exact gd_str t4
  · exact gd_str t1
  · exact gd_str t2
  · exact gd_str t3
  · exact gd_int
  · exact gd_int
  · exact T0 _ (by decide) (by simp [gd_int])
  · exact T0 _ (by decide) (by simp [gd_int])
  · exact T0 _ (by decide) (by simp [gd_int, gd_str t1])
  · exact T0 _ (by decide) (by simp [gd_int, gd_str t2])
  · exact T0 _ (by decide) (by simp)
  · exact gd_list (by decide) (by simp)
  · exact T0 _ (by decide) (by simp [gd_int])
  · exact T0 _ (by decide) (by simp [gd_int, gd_str t3])
  · exact T0 _ (by decide) (by simp [gd_int, T1 [.int 0, .int 0] (by decide) (by simp [gd_int])])
  · exact T0 _ (by decide) (by simp [gd_bool])
  · exact T0 _ (by decide) (by simp [T1 [.int 1, .tuple [.int 1]] (by decide) (by simp [gd_int, T2 [.int 1] (by decide) (by simp [gd_int])])])
/-- a drawn thing -/
theorem Fn_l_thing_eq : ∀ (m k : Nat) {c : Dr}, k < m → k ≤ 10 → OkDr c → ∃ d c', Fn_l_thing m [.int (k : Int)] c = some (d, c') ∧ Gd 10 (3 + k) d ∧ OkDr c'
  | 0, k, c, h, _, _ => absurd h (by omega)
  | m + 1, k, c, h, hk, hc => by
    have ih := fun {c : Dr} (hk0 : 0 < k) (hc : OkDr c) => Fn_l_thing_eq m (k - 1) (c := c) (by omega) (by omega) hc
    refine bodyD_of rfl ?_
    unfold S_l_thing
    obtain ⟨_, c1, e1, w, rfl, w0, w9, ok1⟩ := F_l_draw_eq (m := 9) (by decide) (by decide) hc
    refine .seq (ρ1 := [.dr, .im (.int (k : Int)), .im (.int w), .un, .un, .un]) (c1 := c1) (by simp [e1]) ?_
    have f16 : few 16 = true := by decide
    have f23 : few 23 = true := by decide
    have f7 : few 7 = true := by decide
    have f0 : few 0 = true := by decide
    have f1 : few 1 = true := by decide
    have f2 : few 2 = true := by decide
    have f3 : few 3 = true := by decide
    have w1 : powD (.int 10) (.int 39) = some (.int (10 ^ 39)) := rfl
    have eq0 : eqD (.int (k : Int)) (.int 0) = some (.bool (decide ((k : Int) = 0))) := eqD_int
    by_cases hw : w < 6 ∨ k = 0
    · have ht : sOr (sB (sOp ltD (sV 2) (sC (.int 6)))) (sB (sOp eqD (sV 1) (sC (.int 0)))) [.dr, .im (.int (k : Int)), .im (.int w), .un, .un, .un] c1 = some (true, c1) := by
        by_cases h6 : w < 6
        · simp [h6]
        · have hk0 : k = 0 := by omega
          rw [decide_eq_true (show (k : Int) = 0 by omega)] at eq0
          simp [h6, eq0]
      obtain ⟨d, c2, e2, hd, ok2⟩ := F_l_of_eq (ds := baseL ++ moreL) (by decide) (by decide) ok1
      refine .rt (c1 := c2) (d := d) (DL.ifT ht (seq_run (ρ1 := [.dr, .im (.int (k : Int)), .im (.int w), .im (.list baseL), .un, .un]) (c1 := c1) ?_ (ret_run ?_))) ⟨d, rfl, (base_gd d hd).up (Nat.le_refl _) (by omega), ok2⟩
      · simp [f16, f2, w1, baseL]
      · have e2' : F_l_of [.list (baseL ++ [.tuple [], .list [], .tuple [.int 0], .tuple [.str "thread", .int 0, .int 1], .tuple [.int 1, .tuple [.int 0, .int 0]], .tuple [.bool true], .tuple [.tuple [.int 1, .tuple [.int 1]]]])] c1 = some (d, c2) := e2
        have fb : few (baseL.length + 7) = true := by decide
        simp [f0, f1, f2, f3, f7, fb, e2']
    · have hk0 : 0 < k := by omega
      have ht : sOr (sB (sOp ltD (sV 2) (sC (.int 6)))) (sB (sOp eqD (sV 1) (sC (.int 0)))) [.dr, .im (.int (k : Int)), .im (.int w), .un, .un, .un] c1 = some (false, c1) := by
        have h6 : ¬ w < 6 := fun z => hw (.inl z)
        have hk1 : ¬ ((k : Int) = 0) := by omega
        rw [decide_eq_false hk1] at eq0
        simp [h6, eq0]
      refine .pass ht ?_
      obtain ⟨_, c2, e2, s, rfl, s0, s4, ok2⟩ := F_l_draw_eq (m := 4) (by decide) (by decide) ok1
      obtain ⟨ds, c3, e3, hl, hg, ok3⟩ := lcS_draw (tg := qN 5) (e := sCallD (Fn_l_thing m) 0 (sCons (sOp subD (sV 1) (sC (.int 1))) sNil)) (ρ0 := [.dr, .im (.int (k : Int)), .im (.int w), .un, .un, .un]) (Gd 10 (3 + (k - 1))) OkDr (xs := rngL 0 s.toNat) ok2 (fun x _ => ⟨_, rfl, fun c hc => by
        obtain ⟨d, c', e, g, o⟩ := ih hk0 hc
        rw [show (((k - 1 : Nat)) : Int) = (k : Int) - 1 by omega] at e
        exact ⟨d, c', by simp [e], g, o⟩⟩)
      rw [rngL_len] at hl
      have os : okR s = true := okR_of (by omega) (by omega)
      have fs : few s.toNat = true := few_of (by omega)
      refine .seq (ρ1 := [.dr, .im (.int (k : Int)), .im (.int w), .un, .im (.list ds), .un]) (c1 := c3) (by simp [e2, os, fs, rngL_len, e3]) ?_
      have gl : Gd 10 (3 + k) (.list ds) := by
        have := gd_list (n := 10) (k := 3 + (k - 1)) (ds := ds) (by omega) hg
        rwa [show 3 + (k - 1) + 1 = 3 + k by omega] at this
      have gt : Gd 10 (3 + k) (.tuple ds) := by
        have := gd_tuple (n := 10) (k := 3 + (k - 1)) (ds := ds) (by omega) hg
        rwa [show 3 + (k - 1) + 1 = 3 + k by omega] at this
      have hw6 : w = 6 ∨ w = 7 ∨ w = 8 := by omega
      rcases hw6 with rfl | rfl | rfl
      · exact ⟨_, ret_run (d := .list ds) (c1 := c3) (by simp [f3]; rfl), .list ds, rfl, gl, ok3⟩
      · exact ⟨_, ret_run (d := .tuple ds) (c1 := c3) (by simp [f3]; rfl), .tuple ds, rfl, gt, ok3⟩
      · exact ⟨_, ret_run (d := .tuple ds) (c1 := c3) (by simp [f3]; rfl), .tuple ds, rfl, gt, ok3⟩
end X
namespace X
open PySem PySem.Spec L2 DL DM
/-- a list or a tuple of so many -/
def TL (d : D) (xs : List D) : Prop := d = .list xs ∨ d = .tuple xs
/-- what comes out: a list or a tuple, good -/
def Out (n k : Nat) (d : D) : Prop := Gd n k d ∧ ∃ xs, TL d xs
def GA (n k : Nat) (xs : List D) : Prop := xs.length ≤ n ∧ ∀ d ∈ xs, Gd n k d
theorem GA.up {n m k l : Nat} {xs : List D} (h : GA n k xs) (h1 : n ≤ m) (h2 : k ≤ l) : GA m l xs := ⟨Nat.le_trans h.1 h1, fun d hd => (h.2 d hd).up h1 h2⟩
theorem GA.out {n k : Nat} {xs : List D} (h : GA n k xs) : Out n (k + 1) (.list xs) ∧ Out n (k + 1) (.tuple xs) := ⟨⟨gd_list h.1 h.2, xs, .inl rfl⟩, ⟨gd_tuple h.1 h.2, xs, .inr rfl⟩⟩
theorem GA.set {n k : Nat} {xs : List D} (h : GA n k xs) {j : Nat} {d : D} (hd : Gd n k d) : GA n k (xs.set j d) := ⟨by rw [List.length_set]; exact h.1, fun e he => by
  rcases List.mem_or_eq_of_mem_set he with w | w
  · exact h.2 e w
  · rw [w]; exact hd⟩
theorem ga_of {n k : Nat} {d : D} {xs : List D} (h : Gd n (k + 1) d) (t : TL d xs) : GA n k xs := by
  rcases t with t | t
  · subst t
    obtain ⟨a, j, e, b⟩ := h.ofList
    cases e
    exact ⟨a, b⟩
  · subst t
    obtain ⟨a, j, e, b⟩ := h.ofTuple
    cases e
    exact ⟨a, b⟩
theorem eqD_nil {n k : Nat} {xs : List D} (h : GA n k xs) (hk : k + 1 ≤ 64) : eqD (.list xs) (.list []) = some (.bool (decide (xs = []))) := by
  have h1 : SeqAt.shaped (.list xs) = true := (gd_list h.1 h.2).shaped hk
  have h2 : SeqAt.shaped (.list []) = true := (gd_list (n := 0) (k := 0) (ds := []) (by simp) (by simp)).shaped (by decide)
  unfold eqD
  rw [if_pos ⟨h1, h2⟩]
  cases xs with
  | nil => simp [PyData.eqv, PyData.eqvAll]
  | cons x xs => simp [PyData.eqv, PyData.eqvAll]
abbrev lastS : SS := sFrz 3 (sRet (sIfE (sB (sIsi .list (sV 1))) (sV 3) (sCB tupleD (sCons (sV 3) sNil))))
abbrev swapS : SS := sFrz 3 (sRet (sIfE (sB (sIsi .list (sV 1))) (sCB tupleD (sCons (sV 3) sNil)) (sV 3)))
abbrev OutP (n k : Nat) : Fl × Rho × Dr → Prop := fun r => ∃ d, r.1 = .rt d ∧ (Out n k d ∧ OkDr r.2.2)
theorem last_run {n k : Nat} {d e : D} {ys : List D} {s4 s5 s6 s7 : Sl} {c : Dr} (h : GA n k ys) (hc : OkDr c) : Runs lastS [.dr, .im d, .im e, .ol ys, s4, s5, s6, s7] c (OutP n (k + 1)) := by
  refine .frz rfl ?_
  cases q : isB .list d with
  | true => exact .ret (d := .list ys) (c1 := c) (by simp [q]) ⟨_, rfl, h.out.1, hc⟩
  | false => exact .ret (d := .tuple ys) (c1 := c) (by simp [q]) ⟨_, rfl, h.out.2, hc⟩
theorem swap_run {n k : Nat} {d e : D} {ys : List D} {s4 s5 s6 s7 : Sl} {c : Dr} (h : GA n k ys) (hc : OkDr c) : Runs swapS [.dr, .im d, .im e, .ol ys, s4, s5, s6, s7] c (OutP n (k + 1)) := by
  refine .frz rfl ?_
  cases q : isB .list d with
  | true => exact .ret (d := .tuple ys) (c1 := c) (by simp [q]) ⟨_, rfl, h.out.2, hc⟩
  | false => exact .ret (d := .list ys) (c1 := c) (by simp [q]) ⟨_, rfl, h.out.1, hc⟩
theorem Runs.rtOf {f g : SS} {ρ : Rho} {c : Dr} {P : Fl × Rho × Dr → Prop} {Q : Fl × Rho × Dr → Prop} (h : Runs f ρ c Q) (hq : ∀ r, Q r → ∃ d, r.1 = .rt d) (hp : ∀ r, Q r → P r) : Runs (sSeq f g) ρ c P := by
  obtain ⟨⟨fl, ρ1, c1⟩, e1, e2⟩ := h
  obtain ⟨d, e⟩ := hq _ e2
  have e : fl = .rt d := e
  subst e
  exact ⟨_, seq_rt e1, hp _ e2⟩
theorem isStr {e : D} (h : isB .str e = true) : ∃ x, e = .str x := by
  cases e with
  | str x => exact ⟨x, rfl⟩
  | _ => cases h
theorem isInt {e : D} (h : isB .int e = true) : (∃ i, e = .int i) ∨ ∃ b, e = .bool b := by
  cases e with
  | int x => exact .inl ⟨x, rfl⟩
  | bool x => exact .inr ⟨x, rfl⟩
  | _ => cases h
theorem isTupl {e : D} (h : isB .tuple e = true) : ∃ x, e = .tuple x := by
  cases e with
  | tuple x => exact ⟨x, rfl⟩
  | _ => cases h
theorem isTL {e : D} (h : (isB .tuple e || isB .list e) = true) : ∃ xs, TL e xs := by
  cases e with
  | tuple x => exact ⟨x, .inr rfl⟩
  | list x => exact ⟨x, .inl rfl⟩
  | _ => cases h
/-- the three ways to change a thing within -/
abbrev strS : SS := sThen [6] (sSeq (sAsg (sIxO 3 (sV 4)) (qN 6))
 (sSetI 3 (sV 4) (sCallD F_l_of 0 (sCons (sLst (sCons (sOp addD (sV 6) (sC (.str "a"))) (sCons (sSl slS (sV 6) (sP (sC (.int 1))) sNoP) (sCons (sUpper (sV 6)) (sCons (sC (.str "")) (sCons (sC .none) (sCons (sC (.str "few")) (sCons (sC (.str "many")) sNil)))))))) sNil))))
abbrev intS : SS := sThen [7] (sSeq (sAsg (sIxO 3 (sV 4)) (qN 7))
 (sSetI 3 (sV 4) (sCallD F_l_of 0 (sCons (sLst (sCons (sOp addN (sV 7) (sC (.int 1))) (sCons (sOp subN (sV 7) (sC (.int 1))) (sCons (sOp subN (sC (.int 0)) (sV 7)) (sCons (sC (.bool true)) (sCons (sC (.bool false)) (sCons (sC .none) (sCons (sCB minS (sCons (sOp mulN (sC (.int 1000)) (sV 7)) (sCons (sOp powD (sC (.int 10)) (sC (.int 39))) sNil))) sNil)))))))) sNil))))
section
variable {n k : Nat} {d e0 : D} {xs : List D} {j : Nat} {w : Int} {c : Dr}
theorem str_run (hn : 10 ≤ n) (hn2 : n ≤ 100000) (h : GA n k xs) (hj : j < xs.length) {x : Str} (hx : xs[j]? = some (.str x)) (hc : OkDr c) : ∃ ys c', strS [.dr, .im d, .im e0, .ol xs, .im (.int (j : Int)), .im (.int w), .un, .un] c = some (.nx, [.dr, .im d, .im e0, .ol ys, .im (.int (j : Int)), .im (.int w), .un, .un], c') ∧ GA (n + 1) k ys ∧ OkDr c' := by
  obtain ⟨t1, t2, t3, t4, t5⟩ := txt_few
  have tx : txtOk n x = true := by
    have := (h.2 _ (List.mem_of_getElem? hx)).1
    rw [gd] at this; exact this
  have hx' : atI xs (j : Int) = some (.str x) := atI_nat hx
  have tl : x.length ≤ n := by unfold txtOk at tx; rw [Bool.and_eq_true, decide_eq_true_eq] at tx; exact tx.1
  have el : ("a" : Str).length = 1 := by decide +kernel
  have fa : few (x.length + ("a" : Str).length) = true := by rw [el]; exact few_of (by omega)
  have fx : few x.length = true := few_of (by omega)
  have ea : addD (.str x) (.str "a") = some (.str (x ++ ("a" : Str))) := by
    show (if few (x.length + ("a" : Str).length) = true then some (PyData.str (x ++ ("a" : Str))) else none) = _
    rw [if_pos fa]
  have es : slS (.str x) (some 1) none = some (.str (cutS x (some 1) none)) := by
    show (if few x.length = true then some (PyData.str (cutS x (some 1) none)) else none) = _
    rw [if_pos fx]
  have f7 : few 7 = true := by decide
  obtain ⟨y, c1, e1, hy, ok1⟩ := F_l_of_eq (ds := [.str (x ++ ("a" : Str)), .str (cutS x (some 1) none), .str (Txt.upper x), .str "", .none, .str "few", .str "many"]) (by simp) (by simp) hc
  have gy : Gd (n + 1) k y := by
    simp only [List.mem_cons, List.not_mem_nil, or_false] at hy
    rcases hy with rfl | rfl | rfl | rfl | rfl | rfl | rfl
    · exact gd_str (txt_app tx)
    · exact gd_str (txtOk_up (txt_cut tx) (by omega))
    · exact gd_str (txtOk_up (txt_upper tx) (by omega))
    · exact gd_str (txtOk_up t4 (by omega))
    · exact gd_none
    · exact gd_str (txtOk_up t1 (by omega))
    · exact gd_str (txtOk_up t2 (by omega))
  refine ⟨xs.set j y, c1, then_run (ρ1 := [.dr, .im d, .im e0, .ol (xs.set j y), .im (.int (j : Int)), .im (.int w), .im (.str x), .un]) (seq_run (ρ1 := [.dr, .im d, .im e0, .ol xs, .im (.int (j : Int)), .im (.int w), .im (.str x), .un]) (c1 := c) (by simp [hx']) ?_) rfl, (h.up (by omega) (Nat.le_refl k)).set gy, ok1⟩
  simp [ea, es, sUpper, fx, f7, e1, ixN_nat hj]
theorem int_run (hn : 10 ≤ n) (h : GA n k xs) (hj : j < xs.length) {e : D} (hx : xs[j]? = some e) (hi : isB .int e = true) (hc : OkDr c) : ∃ ys c', intS [.dr, .im d, .im e0, .ol xs, .im (.int (j : Int)), .im (.int w), .un, .un] c = some (.nx, [.dr, .im d, .im e0, .ol ys, .im (.int (j : Int)), .im (.int w), .un, .un], c') ∧ GA (n + 1) k ys ∧ OkDr c' := by
  have hx' : atI xs (j : Int) = some e := atI_nat hx
  have f7 : few 7 = true := by decide
  have w1 : powD (.int 10) (.int 39) = some (.int (10 ^ 39)) := rfl
  have m1 : midI 1000 = true := by decide
  obtain ⟨a1, a2, a3, a4, ea1, ea2, ea3, ea4⟩ : ∃ a1 a2 a3 a4 : Int, addN e (.int 1) = some (.int a1) ∧ subN e (.int 1) = some (.int a2) ∧ subN (.int 0) e = some (.int a3) ∧ mulN (.int 1000) e = some (.int a4) := by
    rcases isInt hi with ⟨i, rfl⟩ | ⟨b, rfl⟩
    · refine ⟨_, _, _, 1000 * i, rfl, rfl, rfl, ?_⟩
      show (if midI 1000 = true then some (PyData.int (1000 * i)) else none) = _
      rw [if_pos m1]
    · exact ⟨_, _, _, _, rfl, rfl, rfl, rfl⟩
  obtain ⟨y, c1, e1, hy, ok1⟩ := F_l_of_eq (ds := [.int a1, .int a2, .int a3, .bool true, .bool false, .none, .int (min a4 (10 ^ 39))]) (by simp) (by simp) hc
  have gy : Gd (n + 1) k y := by
    simp only [List.mem_cons, List.not_mem_nil, or_false] at hy
    rcases hy with rfl | rfl | rfl | rfl | rfl | rfl | rfl
    · exact gd_int
    · exact gd_int
    · exact gd_int
    · exact gd_bool
    · exact gd_bool
    · exact gd_none
    · exact gd_int
  refine ⟨xs.set j y, c1, then_run (ρ1 := [.dr, .im d, .im e0, .ol (xs.set j y), .im (.int (j : Int)), .im (.int w), .un, .im e]) (seq_run (ρ1 := [.dr, .im d, .im e0, .ol xs, .im (.int (j : Int)), .im (.int w), .un, .im e]) (c1 := c) (by simp [hx']) ?_) rfl, (h.up (by omega) (Nat.le_refl k)).set gy, ok1⟩
  have e1' : F_l_of [.list [.int a1, .int a2, .int a3, .bool true, .bool false, .none, .int (min a4 1000000000000000000000000000000000000000)]] c = some (y, c1) := e1
  have w2 : powD (.int 10) (.int 39) = some (.int 1000000000000000000000000000000000000000) := rfl
  simp only [ev_sSetI, ev_sCallD, ev_sCons, ev_sNil, ev_sLst, ev_sOp, ev_sV, ev_sC, ev_sCB, List.getElem?_cons_succ, List.getElem?_cons_zero, Option.bind_some, ea1, ea2, ea3, ea4, w2, ev_minSS, List.length_cons, List.length_nil, Nat.zero_add, f7, if_true, e1', ixN_nat hj, List.set_cons_succ, List.set_cons_zero]
end
end X
namespace X
open PySem PySem.Spec L2 DL DM
abbrev chainS : SS := (sIfS (sB (sOp eqD (sV 5) (sC (.int 0))))
 (sPopAt 3 (sV 4))
 (sIfS (sB (sOp eqD (sV 5) (sC (.int 1))))
 (sInsert 3 (sV 4) (sIxO 3 (sV 4)))
 (sIfS (sB (sOp eqD (sV 5) (sC (.int 2))))
 (sSetCut 3 (sP (sV 4)) (sP (sOp addD (sV 4) (sC (.int 2)))) (sRevCut 3 (sP (sV 4)) (sP (sOp addD (sV 4) (sC (.int 2))))))
 (sIfS (sB (sOp eqD (sV 5) (sC (.int 3))))
 (sSetI 3 (sV 4) (sCallD F_l_thing 0 (sCons (sC (.int 2)) sNil)))
 (sIfS (sAnd (sB (sOp eqD (sV 5) (sC (.int 4)))) (sB (sIsi .str (sIxO 3 (sV 4)))))
 strS
 (sIfS (sAnd (sB (sOp ltD (sV 5) (sC (.int 6)))) (sB (sIsi .int (sIxO 3 (sV 4)))))
 intS
 (sIfS (sAnd (sB (sOp eqD (sV 5) (sC (.int 6)))) (sB (sIsi .tuple (sIxO 3 (sV 4)))))
 (sSetI 3 (sV 4) (sOfL (sListOf (sCons (sIxO 3 (sV 4)) sNil))))
 swapS)))))))
section
variable {n k : Nat} {d e0 : D} {xs : List D} {j : Nat} {c : Dr}
theorem ifF_eq {t : SB} {f g : SS} {ρ : Rho} {c c1 : Dr} (h : t ρ c = some (false, c1)) : sIfS t f g ρ c = g ρ c1 := by unfold sIfS; rw [h]; rfl
theorem eraseIdx_mem {α : Type} {l : List α} {i : Nat} {x : α} (h : x ∈ l.eraseIdx i) : x ∈ l := (List.eraseIdx_sublist l i).subset h
theorem chain_run (hn : 10 ≤ n) (hn2 : n ≤ 100000) (h : GA n k xs) (hj : j < xs.length) {w : Int} (w0 : 0 ≤ w) (w8 : w < 8) (hc : OkDr c) :
    Runs (sSeq chainS lastS) [.dr, .im d, .im e0, .ol xs, .im (.int (j : Int)), .im (.int w), .un, .un] c (OutP (n + 1) (k + 5 + 1)) := by
  have hx : xs[j]? = some xs[j] := List.getElem?_eq_getElem hj
  generalize xs[j] = e at hx
  have hat : atI xs (j : Int) = some e := atI_nat hx
  have he : Gd n k e := h.2 e (List.mem_of_getElem? hx)
  have hup := h.up (Nat.le_succ n) (show k ≤ k + 5 by omega)
  have hl := h.1
  have fx : few xs.length = true := few_of (by omega)
  have nx : ∀ {ys : List D} {c' : Dr}, chainS [.dr, .im d, .im e0, .ol xs, .im (.int (j : Int)), .im (.int w), .un, .un] c = some (.nx, [.dr, .im d, .im e0, .ol ys, .im (.int (j : Int)), .im (.int w), .un, .un], c') → GA (n + 1) (k + 5) ys → OkDr c' →
      Runs (sSeq chainS lastS) [.dr, .im d, .im e0, .ol xs, .im (.int (j : Int)), .im (.int w), .un, .un] c (OutP (n + 1) (k + 5 + 1)) := fun {ys c'} e1 g o => .seq e1 (last_run g o)
  have q : ∀ i : Int, eqD (.int w) (.int i) = some (.bool (decide (w = i))) := fun i => eqD_int
  have stop : chainS [.dr, .im d, .im e0, .ol xs, .im (.int (j : Int)), .im (.int w), .un, .un] c = swapS [.dr, .im d, .im e0, .ol xs, .im (.int (j : Int)), .im (.int w), .un, .un] c →
      Runs (sSeq chainS lastS) [.dr, .im d, .im e0, .ol xs, .im (.int (j : Int)), .im (.int w), .un, .un] c (OutP (n + 1) (k + 5 + 1)) := fun e1 => by
    obtain ⟨r, g1, g2⟩ := swap_run (d := d) (e := e0) (s4 := .im (.int (j : Int))) (s5 := .im (.int w)) (s6 := .un) (s7 := .un) hup hc
    exact Runs.rtOf (Q := OutP (n + 1) (k + 5 + 1)) ⟨r, e1.trans g1, g2⟩ (fun r hr => by obtain ⟨z, a, _⟩ := hr; exact ⟨z, a⟩) (fun r hr => hr)
  have tests : ∀ i : Int, (sB (sOp eqD (sV 5) (sC (.int i)))) [.dr, .im d, .im e0, .ol xs, .im (.int (j : Int)), .im (.int w), .un, .un] c = some (decide (w = i), c) := fun i => by simp [q]
  have isi : ∀ kk : Cl, (sB (sIsi kk (sIxO 3 (sV 4)))) [.dr, .im d, .im e0, .ol xs, .im (.int (j : Int)), .im (.int w), .un, .un] c = some (isB kk e, c) := fun kk => by simp [hat]
  have lt6 : (sB (sOp ltD (sV 5) (sC (.int 6)))) [.dr, .im d, .im e0, .ol xs, .im (.int (j : Int)), .im (.int w), .un, .un] c = some (decide (w < 6), c) := by simp
  have andT : ∀ {a b : SB} {x y : Bool}, a [.dr, .im d, .im e0, .ol xs, .im (.int (j : Int)), .im (.int w), .un, .un] c = some (x, c) → b [.dr, .im d, .im e0, .ol xs, .im (.int (j : Int)), .im (.int w), .un, .un] c = some (y, c) → sAnd a b [.dr, .im d, .im e0, .ol xs, .im (.int (j : Int)), .im (.int w), .un, .un] c = some (x && y, c) := fun {a b x y} h1 h2 => by
    rw [ev_sAnd, h1]
    cases x with
    | true => simp [h2]
    | false => simp
  by_cases h0 : w = 0
  · refine nx (ys := xs.eraseIdx j) (DL.ifT ((tests 0).trans (by rw [decide_eq_true h0])) ?_) ⟨by have := List.length_eraseIdx_le xs j; omega, fun z hz => hup.2 z (eraseIdx_mem hz)⟩ hc
    unfold sPopAt
    simp [fx]
    omega
  by_cases h1 : w = 1
  · refine nx (ys := xs.take j ++ [e] ++ xs.drop j) (DL.ifF ((tests 0).trans (by rw [decide_eq_false h0])) (DL.ifT ((tests 1).trans (by rw [decide_eq_true h1])) ?_)) ⟨by simp; omega, fun z hz => ?_⟩ hc
    · unfold sInsert
      simp [hat, fx]
      omega
    · rcases List.mem_append.mp hz with z1 | z1
      · rcases List.mem_append.mp z1 with z2 | z2
        · exact hup.2 z (List.take_subset _ _ z2)
        · rw [List.mem_singleton.mp z2]; exact he.up (by omega) (by omega)
      · exact hup.2 z (List.drop_subset _ _ z1)
  by_cases h2 : w = 2
  · refine nx (ys := xs.take j ++ (cutL xs (some (j : Int)) (some ((j : Int) + 2))).reverse ++ xs.drop (j + 2)) (DL.ifF ((tests 0).trans (by rw [decide_eq_false h0])) (DL.ifF ((tests 1).trans (by rw [decide_eq_false h1])) (DL.ifT ((tests 2).trans (by rw [decide_eq_true h2])) ?_))) ⟨?_, fun z hz => ?_⟩ hc
    · have lc : (cutL xs (some (j : Int)) (some ((j : Int) + 2))).length ≤ xs.length := by unfold cutL; simp; omega
      have fc : few (xs.length + (cutL xs (some (j : Int)) (some ((j : Int) + 2))).reverse.length) = true := few_of (by rw [List.length_reverse]; omega)
      unfold sSetCut sRevCut
      simp only [List.length_reverse] at fc
      simp [fc, show ((j : Int) + 2).toNat = j + 2 by omega]
      omega
    · have lc : (cutL xs (some (j : Int)) (some ((j : Int) + 2))).length ≤ min 2 (xs.length - j) := by
        have n1 : ¬ ((j : Int) < 0) := by omega
        have n2 : ¬ ((j : Int) + 2 < 0) := by omega
        unfold cutL HT.sIx
        simp [n1, n2]
        omega
      simp
      omega
    · rcases List.mem_append.mp hz with z1 | z1
      · rcases List.mem_append.mp z1 with z2 | z2
        · exact hup.2 z (List.take_subset _ _ z2)
        · refine hup.2 z ?_
          have := List.mem_reverse.mp z2
          unfold cutL at this
          exact List.drop_subset _ _ (List.take_subset _ _ this)
      · exact hup.2 z (List.drop_subset _ _ z1)
  by_cases h3 : w = 3
  · obtain ⟨y, c1, e1, g1, ok1⟩ := Fn_l_thing_eq 4 2 (c := c) (by decide) (by decide) hc
    have e1' : F_l_thing [.int 2] c = some (y, c1) := e1
    refine nx (ys := xs.set j y) (c' := c1) (DL.ifF ((tests 0).trans (by rw [decide_eq_false h0])) (DL.ifF ((tests 1).trans (by rw [decide_eq_false h1])) (DL.ifF ((tests 2).trans (by rw [decide_eq_false h2])) (DL.ifT ((tests 3).trans (by rw [decide_eq_true h3])) ?_)))) (hup.set (g1.up (by omega) (by omega))) ok1
    simp only [ev_sSetI, ev_sCallD, ev_sCons, ev_sNil, ev_sV, ev_sC, List.getElem?_cons_succ, List.getElem?_cons_zero, Option.bind_some, e1', ixN_nat hj, List.set_cons_succ, List.set_cons_zero]
  have pass : chainS [.dr, .im d, .im e0, .ol xs, .im (.int (j : Int)), .im (.int w), .un, .un] c = (sIfS (sAnd (sB (sOp eqD (sV 5) (sC (.int 4)))) (sB (sIsi .str (sIxO 3 (sV 4))))) strS (sIfS (sAnd (sB (sOp ltD (sV 5) (sC (.int 6)))) (sB (sIsi .int (sIxO 3 (sV 4))))) intS (sIfS (sAnd (sB (sOp eqD (sV 5) (sC (.int 6)))) (sB (sIsi .tuple (sIxO 3 (sV 4))))) (sSetI 3 (sV 4) (sOfL (sListOf (sCons (sIxO 3 (sV 4)) sNil)))) swapS)) [.dr, .im d, .im e0, .ol xs, .im (.int (j : Int)), .im (.int w), .un, .un] c) :=
    (ifF_eq ((tests 0).trans (by rw [decide_eq_false h0]))).trans ((ifF_eq ((tests 1).trans (by rw [decide_eq_false h1]))).trans ((ifF_eq ((tests 2).trans (by rw [decide_eq_false h2]))).trans (ifF_eq ((tests 3).trans (by rw [decide_eq_false h3])))))
  cases b4 : (decide (w = 4) && isB .str e) with
  | true =>
    rw [Bool.and_eq_true] at b4
    obtain ⟨x, rfl⟩ := isStr b4.2
    obtain ⟨ys, c1, e1, g1, ok1⟩ := str_run (d := d) (e0 := e0) (w := w) hn hn2 h hj hx hc
    refine nx (ys := ys) (c' := c1) (pass.trans (DL.ifT ((andT (tests 4) (isi .str)).trans (by rw [b4.1, b4.2]; rfl)) e1)) (g1.up (Nat.le_refl _) (by omega)) ok1
  | false =>
  cases b5 : (decide (w < 6) && isB .int e) with
  | true =>
    have b5' := b5
    rw [Bool.and_eq_true] at b5'
    obtain ⟨ys, c1, e1, g1, ok1⟩ := int_run (d := d) (e0 := e0) (w := w) hn h hj hx b5'.2 hc
    refine nx (ys := ys) (c' := c1) (pass.trans (DL.ifF ((andT (tests 4) (isi .str)).trans (by rw [b4])) (DL.ifT ((andT lt6 (isi .int)).trans (by rw [b5])) e1))) (g1.up (Nat.le_refl _) (by omega)) ok1
  | false =>
  cases b6 : (decide (w = 6) && isB .tuple e) with
  | true =>
    have b6' := b6
    rw [Bool.and_eq_true] at b6'
    obtain ⟨zs, rfl⟩ := isTupl b6'.2
    have gz : Gd (n + 1) (k + 5) (.list zs) := by
      obtain ⟨z1, k', rfl, z2⟩ := he.ofTuple
      exact (gd_list z1 z2).up (by omega) (by omega)
    refine nx (ys := xs.set j (.list zs)) (c' := c) (pass.trans (DL.ifF ((andT (tests 4) (isi .str)).trans (by rw [b4])) (DL.ifF ((andT lt6 (isi .int)).trans (by rw [b5])) (DL.ifT ((andT (tests 6) (isi .tuple)).trans (by rw [b6])) ?_)))) (hup.set gz) hc
    simp [hat, ixN_nat hj]
  | false =>
    exact stop (pass.trans ((ifF_eq ((andT (tests 4) (isi .str)).trans (by rw [b4]))).trans ((ifF_eq ((andT lt6 (isi .int)).trans (by rw [b5]))).trans (ifF_eq ((andT (tests 6) (isi .tuple)).trans (by rw [b6]))))))
end
end X
namespace X
open PySem PySem.Spec L2 DL DM
theorem Fn_l_otherwise_eq : ∀ (m p : Nat), p < m → ∀ (n k : Nat) (d : D) (c : Dr), 10 ≤ n → n ≤ 100000 → k + 1 ≤ 64 → Gd n (k + 1) d → (∃ xs, TL d xs) → OkDr c →
    ∃ d' c', Fn_l_otherwise m [d, .int (p : Int)] c = some (d', c') ∧ Out (n + 1) (k + 5 + 1) d' ∧ OkDr c'
  | 0, p, h => absurd h (by omega)
  | m + 1, p, hp => by
    intro n k d c hn hn2 hk hd ht hc
    have ih := Fn_l_otherwise_eq m (p - 1)
    obtain ⟨xs, ht⟩ := ht
    have ga := ga_of hd ht
    have hlx := ga.1
    refine bodyD_of rfl ?_
    unfold S_l_otherwise
    have f0 : few 0 = true := by decide
    have f1 : few 1 = true := by decide
    refine .seq (ρ1 := [.dr, .im d, .im (.int (p : Int)), .ol xs, .un, .un, .un, .un]) (c1 := c) (by
      rcases ht with e | e
      · subst e; simp
      · subst e; simp) ?_
    have en := eqD_nil ga hk
    by_cases hx : xs = []
    · rw [decide_eq_true hx] at en
      obtain ⟨y, c1, e1, g1, ok1⟩ := Fn_l_thing_eq 4 1 (c := c) (by decide) (by decide) hc
      have e1' : F_l_thing [.int 1] c = some (y, c1) := e1
      refine .rt (c1 := c1) (d := .tuple [y]) (DL.ifT (c1 := c) (by simp [en, f0]) (ret_run ?_)) ⟨_, rfl, ⟨(gd_tuple (n := 10) (k := 4) (by simp) (fun z hz => by rw [List.mem_singleton.mp hz]; exact g1)).up (by omega) (by omega), [y], .inr rfl⟩, ok1⟩
      simp only [ev_sTup, ev_sCons, ev_sNil, ev_sCallD, ev_sC, List.getElem?_cons_zero, Option.bind_some, e1', List.length_cons, List.length_nil, Nat.zero_add, f1, if_true]
    · rw [decide_eq_false hx] at en
      have hl1 : 1 ≤ xs.length := by
        cases xs with
        | nil => exact absurd rfl hx
        | cons => simp
      refine .pass (c1 := c) (by simp [en, f0]) ?_
      obtain ⟨_, c1, e1, r, rfl, r0, r1, ok1⟩ := F_l_draw_eq (m := (xs.length : Int)) (by omega) (by omega) hc
      obtain ⟨j, rfl⟩ : ∃ j : Nat, r = (j : Int) := ⟨r.toNat, by omega⟩
      have hj : j < xs.length := by omega
      refine .seq (ρ1 := [.dr, .im d, .im (.int (p : Int)), .ol xs, .im (.int (j : Int)), .un, .un, .un]) (c1 := c1) (by simp [e1, flatD]) ?_
      have hx' : xs[j]? = some xs[j] := List.getElem?_eq_getElem hj
      generalize xs[j] = e at hx'
      have hat : atI xs (j : Int) = some e := atI_nat hx'
      have he : Gd n k e := ga.2 e (List.mem_of_getElem? hx')
      -- what comes behind, from any cell on
      have rest : ∀ {c2 : Dr}, OkDr c2 → Runs (sSeq (sAsg (sCallD F_l_draw 0 (sCons (sC (.int 8)) sNil)) (qN 5)) (sSeq chainS lastS)) [.dr, .im d, .im (.int (p : Int)), .ol xs, .im (.int (j : Int)), .un, .un, .un] c2 (OutP (n + 1) (k + 5 + 1)) := fun {c2} ok2 => by
        obtain ⟨_, c3, e3, w, rfl, w0, w8, ok3⟩ := F_l_draw_eq (m := 8) (by decide) (by decide) ok2
        refine .seq (ρ1 := [.dr, .im d, .im (.int (p : Int)), .ol xs, .im (.int (j : Int)), .im (.int w), .un, .un]) (c1 := c3) (by simp [e3]) ?_
        exact chain_run hn hn2 ga hj w0 w8 ok3
      have fin : ∀ r, OutP (n + 1) (k + 5 + 1) r → ∃ d', r.1 = .rt d' ∧ Out (n + 1) (k + 5 + 1) d' ∧ OkDr r.2.2 := fun r h => h
      cases hb : (isB .tuple e || isB .list e) with
      | false =>
        refine .pass (c1 := c1) ?_ (rest ok1)
        simp [hat, hb]
      | true =>
        by_cases hp0 : 0 < p
        · obtain ⟨_, c2, e2, r2, rfl, r20, r25, ok2⟩ := F_l_draw_eq (m := 5) (by decide) (by decide) ok1
          by_cases h5 : 0 < r2
          · obtain ⟨zs, hz⟩ := isTL hb
            have hk1 : ∃ k', k = k' + 1 := by
              rcases hz with z | z
              · subst z; obtain ⟨_, k', e, _⟩ := he.ofList; exact ⟨k', e⟩
              · subst z; obtain ⟨_, k', e, _⟩ := he.ofTuple; exact ⟨k', e⟩
            obtain ⟨k', rfl⟩ := hk1
            obtain ⟨y, c3, e3, ⟨g3, _⟩, ok3⟩ := ih (by omega) n k' e c2 hn hn2 (by omega) he ⟨zs, hz⟩ ok2
            rw [show ((p - 1 : Nat) : Int) = (p : Int) - 1 by omega] at e3
            have ht' : sAnd (sB (sIsi2 .tuple .list (sIxO 3 (sV 4)))) (sAnd (sB (sOp gtD (sV 2) (sC (.int 0)))) (sB (sOp gtD (sCallD F_l_draw 0 (sCons (sC (.int 5)) sNil)) (sC (.int 0))))) [.dr, .im d, .im (.int (p : Int)), .ol xs, .im (.int (j : Int)), .un, .un, .un] c1 = some (true, c2) := by
              simp [hat, hb, hp0, e2, h5]
            have hr := last_run (d := d) (e := .int (p : Int)) (s4 := .im (.int (j : Int))) (s5 := .un) (s6 := .un) (s7 := .un) (((ga.up (Nat.le_succ n) (show k' + 1 ≤ k' + 1 + 5 by omega)).set (j := j) (g3.up (Nat.le_refl _) (by omega)))) ok3
            refine Runs.rtOf (Q := OutP (n + 1) (k' + 1 + 5 + 1)) (.ifT ht' (.seq (ρ1 := [.dr, .im d, .im (.int (p : Int)), .ol (xs.set j y), .im (.int (j : Int)), .un, .un, .un]) (c1 := c3) ?_ hr)) (fun r hr => by obtain ⟨z, a, _⟩ := hr; exact ⟨z, a⟩) (fun r hr => hr)
            simp [hat, e3, ixN_nat hj]
          · refine .pass (c1 := c2) ?_ (rest ok2)
            simp [hat, hb, hp0, e2, h5]
        · refine .pass (c1 := c1) ?_ (rest ok1)
          simp [hat, hb, hp0]
end X
namespace X
open PySem PySem.Spec L2 DL DM
/-! rows alike at some places -/
theorem dist_le : ∀ xs : List (List Int), (dist xs).length ≤ xs.length
  | [] => Nat.le_refl _
  | x :: xs => by
    have := dist_le xs
    unfold dist
    split
    · rw [List.length_cons]; omega
    · rw [List.length_cons, List.length_cons]; omega
theorem dist_eq : ∀ {xs : List (List Int)}, (dist xs).length = xs.length ↔ xs.Nodup
  | [] => by simp [dist]
  | x :: xs => by
    have h1 := dist_le xs
    have ih := dist_eq (xs := xs)
    rw [List.nodup_cons]
    unfold dist
    by_cases h : (dist xs).contains x = true
    · rw [if_pos h, List.length_cons]
      have hx : x ∈ xs := mem_dist.mp (by simpa using h)
      constructor
      · intro e; omega
      · rintro ⟨q, _⟩; exact absurd hx q
    · rw [if_neg h, List.length_cons, List.length_cons]
      have hx : x ∉ xs := fun q => h (by simpa using mem_dist.mpr q)
      constructor
      · intro e; exact ⟨hx, ih.mp (by omega)⟩
      · rintro ⟨_, q⟩; rw [ih.mpr q]
section
variable {P cap f : Nat} {cs : List Int} {xs : List Nat}
/-- numbers that may be firsts -/
structure Ok (P cap f : Nat) (cs : List Int) (g : Nat → Int) : Prop where
  b : ∀ t, t < f → loS f (gI cs) P t ≤ g t ∧ g t ≤ hiS (cap : Int) f (gI cs) P t
  s : sumN f g = gI cs 0
def mv (g : Nat → Int) (a b : Nat) (s : Nat) : Int := if s = a then g a + 1 else if s = b then g b - 1 else g s
theorem Ok.mv {g : Nat → Int} {a b : Nat} (h : Ok P cap f cs g) (ha : a < f) (hb : b < f) (hab : a ≠ b) (h1 : g a < hiS (cap : Int) f (gI cs) P a) (h2 : loS f (gI cs) P b < g b) : Ok P cap f cs (mv g a b) := by
  refine ⟨fun t ht => ?_, ?_⟩
  · have := h.b t ht
    unfold X.mv
    by_cases e1 : t = a
    · subst e1; rw [if_pos rfl]; omega
    · rw [if_neg e1]
      by_cases e2 : t = b
      · subst e2; rw [if_pos rfl]; omega
      · rw [if_neg e2]; exact this
  · have u1 := sumN_upd (g := fun s => if s = b then g b - 1 else g s) (t := a) (x := g a + 1) (n := f) ha
    have u2 := sumN_upd (g := g) (t := b) (x := g b - 1) (n := f) hb
    have e : (if a = b then g b - 1 else g a) = g a := if_neg hab
    have u1 : sumN f (X.mv g a b) = sumN f (fun s => if s = b then g b - 1 else g s) - (if a = b then g b - 1 else g a) + (g a + 1) := u1
    rw [u1, e, u2, h.s]; omega
theorem two_lots (h : Ask P cap f cs) {g : Nat → Int} {a b : Nat} (ok : Ok P cap f cs g) (ha : a < f) (hb : b < f) (hab : a ≠ b) (h1 : g a < hiS (cap : Int) f (gI cs) P a) (h2 : loS f (gI cs) P b < g b) :
    ∃ v ∈ VL P cap f cs, ∃ w ∈ VL P cap f cs, v ≠ w ∧ ∀ s, s < f → s ≠ a → s ≠ b → gI v s = gI w s := by
  have ok2 := ok.mv ha hb hab h1 h2
  refine ⟨_, lot_of h ok.b ok.s, _, lot_of h ok2.b ok2.s, fun e => ?_, fun s hs ha' hb' => ?_⟩
  · have e1 := congrArg (fun l => gI l a) e
    have e1 : gI ((List.range f).map g) a = gI ((List.range f).map (mv g a b)) a := e1
    rw [gI_tab ha, gI_tab ha] at e1
    unfold mv at e1
    rw [if_pos rfl] at e1
    omega
  · rw [gI_tab hs, gI_tab hs]
    unfold mv
    rw [if_neg ha', if_neg hb']
theorem exists_lt {g k : Nat → Int} {n : Nat} (h : sumN n g < sumN n k) : ∃ w, w < n ∧ g w < k w := by
  refine Classical.byContradiction fun hn => ?_
  have : sumN n k ≤ sumN n g := sumN_le fun i hi => by
    have : ¬ g i < k i := fun q => hn ⟨i, hi, q⟩
    omega
  omega
theorem opn_ok {t : Nat} (ho : opn P cap f cs t = true) : loS f (gI cs) P t < hiS (cap : Int) f (gI cs) P t ∧ sumN f (loS f (gI cs) P) < gI cs 0 ∧ gI cs 0 < sumN f (hiS (cap : Int) f (gI cs) P) := by
  unfold opn at ho
  rw [decide_eq_true_eq] at ho
  obtain ⟨e1, e2⟩ := SPL_sums (P := P) (cap := cap) (f := f) (cs := cs)
  unfold leT moT at ho
  rw [e1, e2] at ho
  omega
/-- two open threads: two rows that differ there alone -/
theorem two_open (h : Ask P cap f cs) (hp : 0 < fitV P cap f (gI cs)) {t u : Nat} (ht : t < f) (hu : u < f) (htu : t ≠ u) (ot : opn P cap f cs t = true) (ou : opn P cap f cs u = true) :
    ∃ v ∈ VL P cap f cs, ∃ w ∈ VL P cap f cs, v ≠ w ∧ ∀ s, s < f → s ≠ t → s ≠ u → gI v s = gI w s := by
  obtain ⟨lot, hlot⟩ := List.exists_mem_of_ne_nil _ ((VL_pos h).mp hp)
  obtain ⟨_, hb, hs⟩ := of_lot hlot
  obtain ⟨t1, t2, t3⟩ := opn_ok ot
  obtain ⟨u1, _, _⟩ := opn_ok ou
  have ok : Ok P cap f cs (gI lot) := ⟨hb, hs⟩
  generalize gI lot = g at ok
  have bt := ok.b t ht
  have bu := ok.b u hu
  have sw : (∃ v ∈ VL P cap f cs, ∃ w ∈ VL P cap f cs, v ≠ w ∧ ∀ s, s < f → s ≠ u → s ≠ t → gI v s = gI w s) → ∃ v ∈ VL P cap f cs, ∃ w ∈ VL P cap f cs, v ≠ w ∧ ∀ s, s < f → s ≠ t → s ≠ u → gI v s = gI w s := fun ⟨v, a, w, b, c, d⟩ => ⟨v, a, w, b, c, fun s s1 s2 s3 => d s s1 s3 s2⟩
  by_cases c1 : g t < hiS (cap : Int) f (gI cs) P t ∧ loS f (gI cs) P u < g u
  · exact two_lots h ok ht hu htu c1.1 c1.2
  by_cases c2 : g u < hiS (cap : Int) f (gI cs) P u ∧ loS f (gI cs) P t < g t
  · exact sw (two_lots h ok hu ht (Ne.symm htu) c2.1 c2.2)
  by_cases c3 : g t < hiS (cap : Int) f (gI cs) P t
  · -- both at their lows
    have k1 : g u = loS f (gI cs) P u := by omega
    have k2 : g t = loS f (gI cs) P t := by omega
    obtain ⟨w, hw, hw2⟩ := exists_lt (g := loS f (gI cs) P) (k := g) (n := f) (by rw [ok.s]; exact t2)
    have wt : w ≠ t := fun e => by subst e; omega
    have wu : w ≠ u := fun e => by subst e; omega
    have ok2 := ok.mv ht hw (Ne.symm wt) c3 hw2
    have e1 : mv g t w t = g t + 1 := if_pos rfl
    have e2 : mv g t w u = g u := by unfold mv; rw [if_neg (Ne.symm htu), if_neg (Ne.symm wu)]
    exact sw (two_lots h ok2 hu ht (Ne.symm htu) (by omega) (by omega))
  · have k2 : g t = hiS (cap : Int) f (gI cs) P t := by omega
    have k1 : g u = hiS (cap : Int) f (gI cs) P u := by omega
    obtain ⟨w, hw, hw2⟩ := exists_lt (g := g) (k := hiS (cap : Int) f (gI cs) P) (n := f) (by rw [ok.s]; exact t3)
    have wt : w ≠ t := fun e => by subst e; omega
    have wu : w ≠ u := fun e => by subst e; omega
    have ok2 := ok.mv hw ht wt hw2 (by omega)
    have e1 : mv g w t t = g t - 1 := by unfold mv; rw [if_neg (Ne.symm wt), if_pos rfl]
    have e2 : mv g w t u = g u := by unfold mv; rw [if_neg (Ne.symm wu), if_neg (Ne.symm htu)]
    exact two_lots h ok2 ht hu htu (by omega) (by omega)
theorem mem_unl {t : Nat} : t ∈ unl P cap f cs xs ↔ t < f ∧ opn P cap f cs t = true ∧ ∀ x ∈ xs, x % f ≠ t := by
  unfold unl opL
  rw [List.mem_filter, List.mem_filter, List.mem_range, Bool.not_eq_true', List.any_eq_false]
  constructor
  · rintro ⟨⟨a, b⟩, c⟩; exact ⟨a, b, fun x hx e => c x hx (by simpa using e)⟩
  · rintro ⟨a, b, c⟩; exact ⟨⟨a, b⟩, fun x hx e => c x hx (by simpa using e)⟩
theorem unl_nodup : (unl P cap f cs xs).Nodup := by
  unfold unl opL
  exact (List.nodup_range.sublist (List.filter_sublist)).sublist (List.filter_sublist)
/-- the parts of a row at some places -/
def resL (P f : Nat) (cs : List Int) (xs : List Nat) (lot : List Int) : List Int := xs.map fun p => gI (rowG P f cs lot) p
theorem res_eq (hb : ∀ x ∈ xs, x < P) {v w : List Int} : resL P f cs xs v = resL P f cs xs w ↔ ∀ p ∈ xs, gI v (p % f) = gI w (p % f) := by
  unfold resL
  rw [List.map_inj_left]
  constructor
  · intro h p hp
    have := h p hp
    rw [rowG_get (hb p hp), rowG_get (hb p hp)] at this
    omega
  · intro h p hp
    rw [rowG_get (hb p hp), rowG_get (hb p hp), h p hp]
theorem looks_iff (h : Ask P cap f cs) (hp : 0 < fitV P cap f (gI cs)) (hb : ∀ x ∈ xs, x < P) : (dist ((VL P cap f cs).map (resL P f cs xs))).length = (VL P cap f cs).length ↔ (unl P cap f cs xs).length < 2 := by
  have hl : ((VL P cap f cs).map (resL P f cs xs)).length = (VL P cap f cs).length := List.length_map _
  rw [← hl, dist_eq]
  have hnd : (VL P cap f cs).Nodup := lots_nodup.sublist List.filter_sublist
  constructor
  · intro hN
    refine Nat.lt_of_not_le fun h2 => ?_
    obtain ⟨t, u, ht, hu, htu⟩ : ∃ t u, t ∈ unl P cap f cs xs ∧ u ∈ unl P cap f cs xs ∧ t ≠ u := by
      have nd := unl_nodup (P := P) (cap := cap) (f := f) (cs := cs) (xs := xs)
      revert nd h2
      generalize unl P cap f cs xs = l
      intro h2 nd
      match l, h2, nd with
      | t :: u :: l, _, nd =>
        rw [List.nodup_cons] at nd
        exact ⟨t, u, List.mem_cons_self, List.mem_cons_of_mem _ List.mem_cons_self, fun e => nd.1 (by rw [e]; exact List.mem_cons_self)⟩
    obtain ⟨t1, t2, t3⟩ := mem_unl.mp ht
    obtain ⟨u1, u2, u3⟩ := mem_unl.mp hu
    obtain ⟨v, hv, w, hw, hne, he⟩ := two_open h hp t1 u1 htu t2 u2
    have hr : resL P f cs xs v = resL P f cs xs w := (res_eq hb).mpr fun p hp' => he (p % f) (Nat.mod_lt _ (by have := h.f1; omega)) (t3 p hp') (u3 p hp')
    have inj : ∀ {l : List (List Int)}, (l.map (resL P f cs xs)).Nodup → ∀ v ∈ l, ∀ w ∈ l, resL P f cs xs v = resL P f cs xs w → v = w := by
      intro l
      induction l with
      | nil => intro _ v hv; cases hv
      | cons x l ih =>
        intro hn v hv w hw e
        rw [List.map_cons, List.nodup_cons] at hn
        rcases List.mem_cons.mp hv with rfl | hv'
        · rcases List.mem_cons.mp hw with rfl | hw'
          · rfl
          · exact absurd (by rw [e]; exact List.mem_map_of_mem hw') hn.1
        · rcases List.mem_cons.mp hw with rfl | hw'
          · exact absurd (by rw [← e]; exact List.mem_map_of_mem hv') hn.1
          · exact ih hn.2 v hv' w hw' e
    exact hne (inj hN v hv w hw hr)
  · intro h2
    have key : ∀ v ∈ VL P cap f cs, ∀ w ∈ VL P cap f cs, resL P f cs xs v = resL P f cs xs w → v = w := fun v hv w hw e => by
      have he := (res_eq hb).mp e
      obtain ⟨vl, vb, vs⟩ := of_lot hv
      obtain ⟨wl, wb, ws⟩ := of_lot hw
      have hd : ∀ t, t < f → gI v t ≠ gI w t → t ∈ unl P cap f cs xs := fun t ht hne => by
        refine mem_unl.mpr ⟨ht, ?_, fun x hx e2 => ?_⟩
        · have m1 := (val_iff h ht hp).mpr ⟨v, hv, rfl⟩
          have m2 := (val_iff h ht hp).mpr ⟨w, hw, rfl⟩
          unfold opn
          rw [decide_eq_true_eq]
          omega
        · subst e2; exact hne (he x hx)
      have same : ∀ t, t < f → gI v t = gI w t := fun t ht => by
        refine Classical.byContradiction fun hne => ?_
        have hm := hd t ht hne
        have oth : ∀ s, s < f → s ≠ t → gI v s = gI w s := fun s hs hst => by
          refine Classical.byContradiction fun hne2 => ?_
          have hm2 := hd s hs hne2
          revert h2 hm hm2
          generalize unl P cap f cs xs = l
          intro h2 hm hm2
          match l, h2, hm, hm2 with
          | [a], _, hm, hm2 => exact hst ((List.mem_singleton.mp hm2).trans (List.mem_singleton.mp hm).symm)
        have u := sumN_upd (g := gI w) (t := t) (x := gI v t) (n := f) ht
        have e2 : sumN f (fun s => if s = t then gI v t else gI w s) = sumN f (gI v) := sumN_congr fun s hs => by
          by_cases e3 : s = t
          · rw [if_pos e3, e3]
          · rw [if_neg e3, oth s hs e3]
        omega
      exact gI_ext (by omega) fun i hi => same i (by omega)
    have go : ∀ {l : List (List Int)}, l.Nodup → (∀ v ∈ l, ∀ w ∈ l, resL P f cs xs v = resL P f cs xs w → v = w) → (l.map (resL P f cs xs)).Nodup := by
      intro l
      induction l with
      | nil => intro _ _; simp
      | cons x l ih =>
        intro hn hk
        rw [List.nodup_cons] at hn
        rw [List.map_cons, List.nodup_cons]
        refine ⟨fun hm => ?_, ih hn.2 fun v hv w hw => hk v (List.mem_cons_of_mem _ hv) w (List.mem_cons_of_mem _ hw)⟩
        obtain ⟨y, hy, e⟩ := List.mem_map.mp hm
        have := hk y (List.mem_cons_of_mem _ hy) x List.mem_cons_self e
        rw [this] at hy
        exact hn.1 hy
    exact go hnd key
end
end X
namespace X
open PySem PySem.Spec L2 DL DM
/-- a whole number from lo to hi -/
def btw (lo hi : Int) : D → Bool
  | .int i => decide (lo ≤ i) && decide (i ≤ hi)
  | _ => false
theorem F_is_btw_eq {d : D} {lo hi : Int} : F_is_between [d, .int lo, .int hi] = some (.bool (btw lo hi d)) := by
  refine bodyP_of rfl ?_
  unfold S_is_between
  cases d with
  | int x =>
    have e1 : isB .int (.int x) = true := rfl
    have e2 : isB .bool (.int x) = false := rfl
    by_cases h : lo ≤ x
    · exact .ret (c1 := (0, 0)) (by simp [e1, e2, h]; rfl) (by simp [h, btw])
    · exact .ret (c1 := (0, 0)) (by simp [e1, e2, h]; rfl) (by simp [h, btw])
  | bool b =>
    have e1 : isB .int (.bool b) = true := rfl
    have e2 : isB .bool (.bool b) = true := rfl
    exact .ret (c1 := (0, 0)) (by simp [e1, e2]; rfl) (by simp [btw])
  | none =>
    have e1 : isB .int .none = false := rfl
    exact .ret (c1 := (0, 0)) (by simp [e1]; rfl) (by simp [btw])
  | str x =>
    have e1 : isB .int (.str x) = false := rfl
    exact .ret (c1 := (0, 0)) (by simp [e1]; rfl) (by simp [btw])
  | list x =>
    have e1 : isB .int (.list x) = false := rfl
    exact .ret (c1 := (0, 0)) (by simp [e1]; rfl) (by simp [btw])
  | tuple x =>
    have e1 : isB .int (.tuple x) = false := rfl
    exact .ret (c1 := (0, 0)) (by simp [e1]; rfl) (by simp [btw])
  | dict x =>
    have e1 : isB .int (.dict x) = false := rfl
    exact .ret (c1 := (0, 0)) (by simp [e1]; rfl) (by simp [btw])
theorem F_l_is_whole_eq {d : D} {lo hi : Int} : F_l_is_whole [d, .int lo, .int hi] = some (.bool (btw lo hi d)) := F_is_btw_eq
theorem allD_map {xs : List D} {g : D → Bool} : allD [.list (xs.map fun d => .bool (g d))] = some (.bool (xs.all g)) := by
  have e : (xs.map fun d => PyData.bool (g d)) = (xs.map g).map PyData.bool := by rw [List.map_map]; rfl
  rw [e]
  show (boolsD _).map _ = _
  rw [boolsD_map]
  show some (PyData.bool ((xs.map g).all id)) = _
  rw [List.all_map]; rfl
/-- the items of a tuple -/
def tupOf : D → Option (List D)
  | .tuple xs => some xs
  | _ => none
theorem isTup_no {d : D} (h : tupOf d = none) : isB .tuple d = false := by
  cases d with
  | tuple xs => cases h
  | _ => rfl
theorem isTup_yes {xs : List D} : isB .tuple (.tuple xs) = true := rfl
theorem tup_cases (d : D) : (∃ xs, d = .tuple xs) ∨ tupOf d = none := by
  cases d with
  | tuple xs => exact .inl ⟨xs, rfl⟩
  | _ => exact .inr rfl
theorem btw_int {lo hi : Int} {a : D} (h : btw lo hi a = true) : ∃ i, a = .int i ∧ lo ≤ i ∧ i ≤ hi := by
  cases a with
  | int i =>
    simp [btw] at h
    exact ⟨i, rfl, h⟩
  | _ => cases h
def ltB : D → Bool
  | .tuple [.int a, .int b] => decide (a < b)
  | _ => false
def lookOk (P : Nat) (d : D) : Bool := match tupOf d with
  | some ys => ys.all (btw 0 ((P : Int) - 1)) && (zipL ys (ys.drop 1)).all ltB
  | none => false
theorem look_nat {P : Nat} : ∀ {ys : List D}, (∀ y ∈ ys, btw 0 ((P : Int) - 1) y = true) → ∃ xs : List Nat, ys = iL (nL xs) ∧ ∀ x ∈ xs, x < P
  | [], _ => ⟨[], rfl, fun x h => by cases h⟩
  | y :: ys, h => by
    obtain ⟨i, rfl, h0, h1⟩ := btw_int (h _ List.mem_cons_self)
    obtain ⟨xs, rfl, hx⟩ := look_nat fun z hz => h z (List.mem_cons_of_mem _ hz)
    refine ⟨i.toNat :: xs, ?_, fun x hm => ?_⟩
    · show _ = PyData.int ((i.toNat : Nat) : Int) :: iL (nL xs)
      rw [show ((i.toNat : Nat) : Int) = i by omega]
    · rcases List.mem_cons.mp hm with e | e
      · omega
      · exact hx x e
theorem look_rise : ∀ {xs : List Nat}, (zipL (iL (nL xs)) ((iL (nL xs)).drop 1)).all ltB = true → xs.Pairwise (· < ·)
  | [], _ => .nil
  | [x], _ => List.pairwise_singleton _ _
  | x :: y :: xs, h => by
    have h : (decide ((x : Int) < y) && (zipL (iL (nL (y :: xs))) ((iL (nL (y :: xs))).drop 1)).all ltB) = true := h
    rw [Bool.and_eq_true, decide_eq_true_eq] at h
    have ih := look_rise h.2
    rw [List.pairwise_cons]
    refine ⟨fun z hz => ?_, ih⟩
    rcases List.mem_cons.mp hz with e | e
    · omega
    · have := (List.pairwise_cons.mp ih).1 z e
      omega
theorem look_form {P : Nat} {d : D} (h : lookOk P d = true) : ∃ xs : List Nat, d = .tuple (iL (nL xs)) ∧ xs.Pairwise (· < ·) ∧ ∀ x ∈ xs, x < P := by
  rcases tup_cases d with ⟨ys, rfl⟩ | hd
  · have h : (ys.all (btw 0 ((P : Int) - 1)) && (zipL ys (ys.drop 1)).all ltB) = true := h
    rw [Bool.and_eq_true, List.all_eq_true] at h
    obtain ⟨xs, rfl, hx⟩ := look_nat h.1
    exact ⟨xs, rfl, look_rise h.2, hx⟩
  · unfold lookOk at h; rw [hd] at h; cases h
theorem cut_1' {α : Type} {xs : List α} : cutL xs (some 1) none = xs.drop 1 := cut_1
section
variable {P cap f : Nat} {cs : List Int} {d : D}
theorem zip_ints {xs : List Nat} {x : D} (h : x ∈ zipL (iL (nL xs)) ((iL (nL xs)).drop 1)) : ∃ a b : Int, x = .tuple [.int a, .int b] := by
  obtain ⟨i, hi⟩ := List.getElem?_of_mem h
  obtain ⟨u, v, hu, hv, rfl⟩ := zipL_get hi
  have hu := List.mem_of_getElem? hu
  have hv := List.drop_subset _ _ (List.mem_of_getElem? hv)
  obtain ⟨a, _, rfl⟩ := List.mem_map.mp hu
  obtain ⟨b, _, rfl⟩ := List.mem_map.mp hv
  exact ⟨a, b, rfl⟩
theorem F_are_looks_any (h : Ask P cap f cs) (hd : ∀ xs, d = .tuple xs → xs.length ≤ 1000) : F_are_looks [.int P, .int cap, .int f, .tuple (iL cs), d] = some (.bool (lookOk P d && (if 0 < fitV P cap f (gI cs) then (match tupOf d with | some ys => decide ((unl P cap f cs (ys.map fun y => match y with | .int i => i.toNat | _ => 0)).length < 2) | none => false) else true))) := by
  rcases tup_cases d with ⟨ys, rfl⟩ | hn
  · have hl := hd ys rfl
    have fy : few ys.length = true := few_of (by omega)
    have l1 := lcS_map (tg := qN 6) (e := sCall F_is_between (sCons (sV 6) (sCons (sC (.int 0)) (sCons (sOp subD (sV 0) (sC (.int 1))) sNil)))) (ρ0 := [.im (.int P), .im (.int cap), .im (.int f), .im (.tuple (iL cs)), .im (.tuple ys), .un, .un, .un, .un]) (xs := ys) (c := (0, 0)) (fun d => .bool (btw 0 ((P : Int) - 1) d)) (fun x _ => ⟨_, rfl, by simp [F_is_btw_eq]⟩)
    cases ha : ys.all (btw 0 ((P : Int) - 1)) with
    | false =>
      have e : lookOk P (.tuple ys) = false := by show (ys.all _ && _) = false; rw [ha]; rfl
      rw [e]
      refine bodyP_of rfl ?_
      unfold S_are_looks
      exact .leave (c1 := (0, 0)) (c2 := (0, 0)) (d := .bool false) (by simp [isTup_yes, fy, l1, allD_map, ha]) rfl rfl
    | true =>
      obtain ⟨xs, rfl, hx⟩ := look_nat (List.all_eq_true.mp ha)
      have fz : few (zipL (iL (nL xs)) ((iL (nL xs)).drop 1)).length = true := few_of (by rw [zipL_len]; omega)
      have l2 := lcS_map (tg := qTup (qCons (qN 6) (qCons (qN 7) qNil))) (e := sOp ltD (sV 6) (sV 7)) (ρ0 := [.im (.int P), .im (.int cap), .im (.int f), .im (.tuple (iL cs)), .im (.tuple (iL (nL xs))), .un, .un, .un, .un]) (xs := zipL (iL (nL xs)) ((iL (nL xs)).drop 1)) (c := (0, 0)) (fun d => .bool (ltB d)) (fun x hx' => by
        obtain ⟨a, b, rfl⟩ := zip_ints hx'
        exact ⟨_, rfl, rfl⟩)
      cases hb : (zipL (iL (nL xs)) ((iL (nL xs)).drop 1)).all ltB with
      | false =>
        have e : lookOk P (.tuple (iL (nL xs))) = false := by show (_ && _) = false; rw [hb, Bool.and_false]
        rw [e]
        refine bodyP_of rfl ?_
        unfold S_are_looks
        refine .pass (c1 := (0, 0)) (by
          simp only [ev_sOr, ev_sNot, ev_sB, ev_sIsi, ev_sCB, ev_sCons, ev_sNil, ev_sOfL, ev_sLc, ev_sItT, ev_sV, List.map_cons, List.map_nil, List.cons_append, List.nil_append, List.replicate_succ, List.replicate_zero, List.getElem?_cons_succ, List.getElem?_cons_zero, Option.bind_some, isTup_yes, Bool.not_true, Bool.false_eq_true, if_false, fy, if_true, ev_wipe0, ev_wipe1, List.set_cons_succ, List.set_cons_zero, l1, allD_map, ha]) ?_
        refine .leave (c1 := (0, 0)) (c2 := (0, 0)) (d := .bool false) ?_ rfl rfl
        simp only [ev_sNot, ev_sB, ev_sCB, ev_sCons, ev_sNil, ev_sOfL, ev_sLc, ev_sZip, ev_sSl, ev_sP, ev_sNoP, ev_sC, ev_sV, List.map_cons, List.map_nil, List.cons_append, List.nil_append, List.replicate_succ, List.replicate_zero, List.getElem?_cons_succ, List.getElem?_cons_zero, Option.bind_some, ev_slT, cut_1', ev_seqT, fz, if_true, ev_wipe0, ev_wipe1, List.set_cons_succ, List.set_cons_zero, l2, allD_map, hb, Bool.not_false]
      | true =>
        have e : lookOk P (.tuple (iL (nL xs))) = true := by show (_ && _) = true; rw [hb, ha]; rfl
        have hp := look_rise hb
        have en : ((iL (nL xs)).map fun y => match y with | .int i => i.toNat | _ => 0) = xs := by
          unfold iL nL
          rw [List.map_map, List.map_map]
          refine (List.map_congr_left fun x _ => ?_).trans (List.map_id xs)
          show ((x : Int)).toNat = x
          omega
        rw [e, Bool.true_and]
        by_cases hf : 0 < fitV P cap f (gI cs)
        · rw [if_pos hf]
          have := F_are_looks_eq h hf hp hx (by rw [iL_len] at hl; unfold nL at hl; simpa using hl)
          rw [this]
          show _ = some (PyData.bool (decide ((unl P cap f cs ((iL (nL xs)).map fun y => match y with | .int i => i.toNat | _ => 0)).length < 2)))
          rw [en]
        · rw [if_neg hf]
          have et := F_open_threads_eq h
          rw [if_neg hf] at et
          refine bodyP_of rfl ?_
          unfold S_are_looks
          refine .pass (c1 := (0, 0)) (by
            simp only [ev_sOr, ev_sNot, ev_sB, ev_sIsi, ev_sCB, ev_sCons, ev_sNil, ev_sOfL, ev_sLc, ev_sItT, ev_sV, List.map_cons, List.map_nil, List.cons_append, List.nil_append, List.replicate_succ, List.replicate_zero, List.getElem?_cons_succ, List.getElem?_cons_zero, Option.bind_some, isTup_yes, Bool.not_true, Bool.false_eq_true, if_false, fy, if_true, ev_wipe0, ev_wipe1, List.set_cons_succ, List.set_cons_zero, l1, allD_map, ha]) ?_
          refine .pass (c1 := (0, 0)) (by
            simp only [ev_sNot, ev_sB, ev_sCB, ev_sCons, ev_sNil, ev_sOfL, ev_sLc, ev_sZip, ev_sSl, ev_sP, ev_sNoP, ev_sC, ev_sV, List.map_cons, List.map_nil, List.cons_append, List.nil_append, List.replicate_succ, List.replicate_zero, List.getElem?_cons_succ, List.getElem?_cons_zero, Option.bind_some, ev_slT, cut_1', ev_seqT, fz, if_true, ev_wipe0, ev_wipe1, List.set_cons_succ, List.set_cons_zero, l2, allD_map, hb, Bool.not_true]) ?_
          refine .seq (ρ1 := [.im (.int P), .im (.int cap), .im (.int f), .im (.tuple (iL cs)), .im (.tuple (iL (nL xs))), .im .none, .un, .un, .un]) (c1 := (0, 0)) (by simp [et]) ?_
          exact .leave (c1 := (0, 0)) (c2 := (0, 0)) (d := .bool true) (by simp) rfl rfl
  · have e : lookOk P d = false := by unfold lookOk; rw [hn]
    rw [e]
    have e1 := isTup_no hn
    refine bodyP_of rfl ?_
    unfold S_are_looks
    exact .leave (c1 := (0, 0)) (c2 := (0, 0)) (d := .bool false) (by simp [e1]) rfl rfl
end
end X
namespace X
open PySem PySem.Spec L2 DL DM
theorem rowsI_map : ∀ {Rs : List (List Int)}, rowsI (Rs.map fun r => .tuple (iL r)) = some Rs
  | [] => rfl
  | r :: Rs => by
    show ((intsD (iL r)).bind fun x => (rowsI (Rs.map fun r => .tuple (iL r))).map (x :: ·)) = _
    rw [show intsD (iL r) = some r from intsD_map r, rowsI_map]; rfl
theorem one_pln {ys : List D} {g : D → Bool} : Pln 1 (.list (ys.filterMap fun d => if g d = true then none else some (PyData.int 1))) := .list fun d hd => by
  obtain ⟨x, _, e⟩ := List.mem_filterMap.mp hd
  split at e
  · cases e
  · cases e; exact pln_int
theorem one_nil {ys : List D} {g : D → Bool} : (ys.filterMap fun d => if g d = true then none else some (PyData.int 1)) = [] ↔ ys.all g = true := by
  rw [List.filterMap_eq_nil_iff, List.all_eq_true]
  constructor
  · intro h x hx
    have := h x hx
    by_cases w : g x = true
    · exact w
    · rw [if_neg w] at this; cases this
  · intro h x hx
    rw [if_pos (h x hx)]
theorem one_ne {ys : List D} {g : D → Bool} : neD (.list (ys.filterMap fun d => if g d = true then none else some (PyData.int 1))) (.list []) = some (.bool (!ys.all g)) := neD_b (n := 1) one_pln (.list fun d hd => by cases hd) (by decide) (by
  rw [← one_nil]
  constructor
  · intro e; rw [e]
  · intro e; injection e)
section
variable {P cap f : Nat} {cs : List Int} {d : D}
theorem F_l_are_looks_any (h : Ask P cap f cs) (h64 : (VL P cap f cs).length < 64) (hd : ∀ xs, d = .tuple xs → xs.length ≤ 1000) : F_l_are_looks [.int P, .list ((VL P cap f cs).map (rwD P f cs)), d] = some (.bool (lookOk P d && (if 0 < fitV P cap f (gI cs) then (match tupOf d with | some ys => decide ((unl P cap f cs (ys.map fun y => match y with | .int i => i.toNat | _ => 0)).length < 2) | none => false) else true))) := by
  have f0 : few 0 = true := by decide
  rcases tup_cases d with ⟨ys, rfl⟩ | hn
  · have hl := hd ys rfl
    have fy : few ys.length = true := few_of (by omega)
    have l1 := lcS_run (tg := qN 3) (t := sNot (sB (sCall F_l_is_whole (sCons (sV 3) (sCons (sC (.int 0)) (sCons (sOp subD (sV 0) (sC (.int 1))) sNil)))))) (e := sC (.int 1)) (ρ0 := [.im (.int P), .im (.list ((VL P cap f cs).map (rwD P f cs))), .im (.tuple ys), .un, .un, .un, .un]) (xs := ys) (c := (0, 0)) (fun d => if btw 0 ((P : Int) - 1) d = true then none else some (.int 1)) (fun x _ => by
      refine ⟨_, rfl, ?_⟩
      by_cases z : btw 0 ((P : Int) - 1) x = true
      · rw [if_pos z]; simp [F_l_is_whole_eq, z]
      · rw [if_neg z]; simp [F_l_is_whole_eq, z])
    have e1 := one_ne (ys := ys) (g := btw 0 ((P : Int) - 1))
    cases ha : ys.all (btw 0 ((P : Int) - 1)) with
    | false =>
      rw [ha] at e1
      have e : lookOk P (.tuple ys) = false := by show (ys.all _ && _) = false; rw [ha]; rfl
      rw [e]
      refine bodyP_of rfl ?_
      unfold S_l_are_looks
      refine .leave (c1 := (0, 0)) (c2 := (0, 0)) (d := .bool false) ?_ rfl rfl
      simp only [ev_sOr, ev_sNot, ev_sB, ev_sIsi, ev_sOp, ev_sOfL, ev_sLc, ev_sItT, ev_sV, ev_sLst, ev_sNil, List.map_cons, List.map_nil, List.cons_append, List.nil_append, List.replicate_succ, List.replicate_zero, List.getElem?_cons_succ, List.getElem?_cons_zero, Option.bind_some, isTup_yes, Bool.not_true, Bool.false_eq_true, if_false, fy, if_true, ev_wipe0, ev_wipe1, List.set_cons_succ, List.set_cons_zero, l1, List.length_nil, f0, e1, Bool.not_false]
    | true =>
      rw [ha] at e1
      obtain ⟨xs, rfl, hx⟩ := look_nat (List.all_eq_true.mp ha)
      have fz : few (zipL (iL (nL xs)) ((iL (nL xs)).drop 1)).length = true := few_of (by rw [zipL_len]; omega)
      have l2 := lcS_run (tg := qTup (qCons (qN 3) (qCons (qN 4) qNil))) (t := sNot (sB (sOp ltD (sV 3) (sV 4)))) (e := sC (.int 1)) (ρ0 := [.im (.int P), .im (.list ((VL P cap f cs).map (rwD P f cs))), .im (.tuple (iL (nL xs))), .un, .un, .un, .un]) (xs := zipL (iL (nL xs)) ((iL (nL xs)).drop 1)) (c := (0, 0)) (fun d => if ltB d = true then none else some (.int 1)) (fun x hx' => by
        obtain ⟨a, b, rfl⟩ := zip_ints hx'
        refine ⟨_, rfl, ?_⟩
        have eb : ltB (.tuple [.int a, .int b]) = decide (a < b) := rfl
        by_cases z : a < b
        · rw [eb, decide_eq_true z, if_pos rfl]; simp [z]
        · rw [eb, decide_eq_false z, if_neg (by decide)]; simp [z])
      have e2 := one_ne (ys := zipL (iL (nL xs)) ((iL (nL xs)).drop 1)) (g := ltB)
      have p1 : ∀ {k : SS} {Q : Fl × Rho × Dr → Prop}, Runs k [.im (.int P), .im (.list ((VL P cap f cs).map (rwD P f cs))), .im (.tuple (iL (nL xs))), .un, .un, .un, .un] (0, 0) Q → Runs (sSeq (sIfS (sOr (sNot (sB (sIsi .tuple (sV 2)))) (sB (sOp neD (sOfL (sLc (sItT (sV 2)) (qN 3) (sNot (sB (sCall F_l_is_whole (sCons (sV 3) (sCons (sC (.int 0)) (sCons (sOp subD (sV 0) (sC (.int 1))) sNil)))))) (sC (.int 1)) [3])) (sLst sNil)))) (sRet (sC (.bool false))) sNext) k) ([PyData.int P, .list ((VL P cap f cs).map (rwD P f cs)), .tuple (iL (nL xs))].map .im ++ List.replicate 4 .un) (0, 0) Q := fun {k Q} hk => by
        refine .pass (c1 := (0, 0)) ?_ hk
        simp only [ev_sOr, ev_sNot, ev_sB, ev_sIsi, ev_sOp, ev_sOfL, ev_sLc, ev_sItT, ev_sV, ev_sLst, ev_sNil, List.map_cons, List.map_nil, List.cons_append, List.nil_append, List.replicate_succ, List.replicate_zero, List.getElem?_cons_succ, List.getElem?_cons_zero, Option.bind_some, isTup_yes, Bool.not_true, Bool.false_eq_true, if_false, fy, if_true, ev_wipe0, ev_wipe1, List.set_cons_succ, List.set_cons_zero, l1, List.length_nil, f0, e1]
      cases hb : (zipL (iL (nL xs)) ((iL (nL xs)).drop 1)).all ltB with
      | false =>
        rw [hb] at e2
        have e : lookOk P (.tuple (iL (nL xs))) = false := by show (_ && _) = false; rw [hb, Bool.and_false]
        rw [e]
        refine bodyP_of rfl ?_
        unfold S_l_are_looks
        refine p1 ?_
        refine .leave (c1 := (0, 0)) (c2 := (0, 0)) (d := .bool false) ?_ rfl rfl
        simp only [ev_sB, ev_sOp, ev_sOfL, ev_sLc, ev_sZip, ev_sSl, ev_sP, ev_sNoP, ev_sC, ev_sV, ev_sLst, ev_sNil, List.getElem?_cons_succ, List.getElem?_cons_zero, Option.bind_some, ev_slT, cut_1', ev_seqT, fz, if_true, ev_wipe0, ev_wipe1, List.set_cons_succ, List.set_cons_zero, l2, List.length_nil, f0, e2, Bool.not_false]
      | true =>
        rw [hb] at e2
        have e : lookOk P (.tuple (iL (nL xs))) = true := by show (_ && _) = true; rw [hb, ha]; rfl
        have en : ((iL (nL xs)).map fun y => match y with | .int i => i.toNat | _ => 0) = xs := by
          unfold iL nL
          rw [List.map_map, List.map_map]
          refine (List.map_congr_left fun x _ => ?_).trans (List.map_id xs)
          show ((x : Int)).toNat = x
          omega
        have hres : (if 0 < fitV P cap f (gI cs) then (match tupOf (.tuple (iL (nL xs))) with | some ys => decide ((unl P cap f cs (ys.map fun y => match y with | .int i => i.toNat | _ => 0)).length < 2) | none => false) else true) = decide (((dist ((VL P cap f cs).map (resL P f cs xs))).length : Int) = (VL P cap f cs).length) := by
          by_cases hf : 0 < fitV P cap f (gI cs)
          · rw [if_pos hf]
            show decide ((unl P cap f cs ((iL (nL xs)).map fun y => match y with | .int i => i.toNat | _ => 0)).length < 2) = _
            rw [en]
            exact decide_eq_decide.mpr ((looks_iff h hf hx).symm.trans ⟨fun w => by omega, fun w => by omega⟩)
          · rw [if_neg hf]
            have hv : VL P cap f cs = [] := Classical.byContradiction fun w => hf ((VL_pos h).mpr w)
            rw [hv]; rfl
        rw [e, Bool.true_and, hres]
        refine bodyP_of rfl ?_
        unfold S_l_are_looks
        refine p1 (.pass (c1 := (0, 0)) ?_ ?_)
        · simp only [ev_sB, ev_sOp, ev_sOfL, ev_sLc, ev_sZip, ev_sSl, ev_sP, ev_sNoP, ev_sC, ev_sV, ev_sLst, ev_sNil, List.getElem?_cons_succ, List.getElem?_cons_zero, Option.bind_some, ev_slT, cut_1', ev_seqT, fz, if_true, ev_wipe0, ev_wipe1, List.set_cons_succ, List.set_cons_zero, l2, List.length_nil, f0, e2, Bool.not_true]
        have l3 := lcS_map (tg := qN 5) (e := sCB tupleD (sCons (sOfL (sLc (sItT (sV 2)) (qN 6) sYes (sOp ixD (sV 5) (sV 6)) [6])) sNil)) (ρ0 := [.im (.int P), .im (.list ((VL P cap f cs).map (rwD P f cs))), .im (.tuple (iL (nL xs))), .un, .un, .un, .un]) (xs := (VL P cap f cs).map (rwD P f cs)) (c := (0, 0)) (fun d => .tuple ((iL (nL xs)).map fun y => match y, d with | .int i, .tuple r => (r[i.toNat]?).getD .none | _, _ => .none)) (fun z hz => by
          obtain ⟨lot, hlot, rfl⟩ := List.mem_map.mp hz
          refine ⟨_, rfl, ?_⟩
          have l4 := lcS_map (tg := qN 6) (e := sOp ixD (sV 5) (sV 6)) (ρ0 := [.im (.int P), .im (.list ((VL P cap f cs).map (rwD P f cs))), .im (.tuple (iL (nL xs))), .un, .un, .im (rwD P f cs lot), .un]) (xs := iL (nL xs)) (c := (0, 0)) (fun y => match y, rwD P f cs lot with | .int i, .tuple r => (r[i.toNat]?).getD .none | _, _ => .none) (fun y hy => by
            obtain ⟨i, hi, rfl⟩ := List.mem_map.mp hy
            obtain ⟨x, hm, rfl⟩ := List.mem_map.mp hi
            have hxp := hx x hm
            have e7 : atI (iL (rowG P f cs lot)) (x : Int) = some (.int (gI (rowG P f cs lot) x)) := atI_iL (by rw [rowG_len]; exact hxp)
            have e8 : ((iL (rowG P f cs lot))[((x : Nat) : Int).toNat]?).getD .none = PyData.int (gI (rowG P f cs lot) x) := by
              rw [show (((x : Nat) : Int)).toNat = x by omega, iL_get, List.getElem?_eq_getElem (by rw [rowG_len]; exact hxp)]
              unfold gI
              simp [List.getD, show x < (rowG P f cs lot).length by rw [rowG_len]; exact hxp]
            refine ⟨_, rfl, ?_⟩
            show _ = some (((iL (rowG P f cs lot))[((x : Nat) : Int).toNat]?).getD .none, _)
            rw [e8]
            simp only [ev_sOp, ev_sV, ev_qN, List.set_cons_succ, List.set_cons_zero, List.getElem?_cons_succ, List.getElem?_cons_zero, Option.bind_some, rwD, ev_ixT, e7])
          simp only [ev_sCB, ev_sCons, ev_sNil, ev_sOfL, ev_sLc, ev_sItT, ev_sV, ev_qN, List.set_cons_succ, List.set_cons_zero, List.getElem?_cons_succ, List.getElem?_cons_zero, Option.bind_some, fy, if_true, ev_wipe0, ev_wipe1, l4, ev_tupL])
        have e9 : ((VL P cap f cs).map (rwD P f cs)).map (fun d => PyData.tuple ((iL (nL xs)).map fun y => match y, d with | .int i, .tuple r => (r[i.toNat]?).getD .none | _, _ => .none)) = ((VL P cap f cs).map (resL P f cs xs)).map fun r => .tuple (iL r) := by
          rw [List.map_map, List.map_map]
          refine List.map_congr_left fun lot _ => ?_
          show PyData.tuple ((iL (nL xs)).map fun y => match y, rwD P f cs lot with | .int i, .tuple r => (r[i.toNat]?).getD .none | _, _ => .none) = .tuple (iL (resL P f cs xs lot))
          congr 1
          unfold resL nL
          unfold iL
          rw [List.map_map, List.map_map, List.map_map]
          refine List.map_congr_left fun x hm => ?_
          have hxp := hx x hm
          show ((iL (rowG P f cs lot))[((x : Nat) : Int).toNat]?).getD .none = PyData.int (gI (rowG P f cs lot) x)
          rw [show (((x : Nat) : Int)).toNat = x by omega, iL_get, List.getElem?_eq_getElem (by rw [rowG_len]; exact hxp)]
          unfold gI
          simp [List.getD, show x < (rowG P f cs lot).length by rw [rowG_len]; exact hxp]
        rw [e9] at l3
        have fv : few ((VL P cap f cs).map (rwD P f cs)).length = true := few_of (by rw [List.length_map]; omega)
        have h64' : ((VL P cap f cs).map (resL P f cs xs)).length < 64 := by rw [List.length_map]; exact h64
        refine .ret (d := .bool (decide (((dist ((VL P cap f cs).map (resL P f cs xs))).length : Int) = (VL P cap f cs).length))) (c1 := (0, 0)) ?_ rfl
        have fv' : few (VL P cap f cs).length = true := few_of (by omega)
        unfold sLenSetT
        simp only [ev_sOp, ev_sOfL, ev_sLc, ev_sItL, ev_sV, ev_sCB, ev_sCons, ev_sNil, List.getElem?_cons_succ, List.getElem?_cons_zero, Option.bind_some, fv, if_true, ev_wipe0, ev_wipe1, List.set_cons_succ, List.set_cons_zero, l3, rowsI_map, h64, fv', ev_lenL, List.length_map]
        rw [eqD_int]
        rfl
  · have e : lookOk P d = false := by unfold lookOk; rw [hn]
    rw [e]
    have e1 := isTup_no hn
    refine bodyP_of rfl ?_
    unfold S_l_are_looks
    exact .leave (c1 := (0, 0)) (c2 := (0, 0)) (d := .bool false) (by simp [e1]) rfl rfl
end
end X
namespace X
open PySem PySem.Spec L2 DL DM
section
variable {P cap f : Nat} {cs : List Int}
/-- the one bar of few or many -/
def fmD (P cap f : Nat) (cs : List Int) : D := if sumN f (hiS (cap : Int) f (gI cs) P) < gI cs 0 then .tuple [.str "many", .int (sumN f (hiS (cap : Int) f (gI cs) P))] else .tuple [.str "few", .int (sumN f (loS f (gI cs) P))]
def barsL (P cap f : Nat) (cs : List Int) : List D := if tbL P cap f cs P = [] ∧ VL P cap f cs = [] then [fmD P cap f cs] else (tbL P cap f cs P).map tbD
theorem vl_eq {P cap f : Nat} {cs : List Int} : eqD (.list ((VL P cap f cs).map (rwD P f cs))) (.list []) = some (.bool (decide (VL P cap f cs = []))) := eqD_b (n := 2) (.list fun d hd => by
    obtain ⟨l, _, rfl⟩ := List.mem_map.mp hd
    exact pln_tup) (Pln.list fun d hd => by cases hd) (by decide) (by
  rw [decide_eq_true_eq]
  constructor
  · intro e; rw [e]; rfl
  · intro e
    have e : (VL P cap f cs).map (rwD P f cs) = [] := by injection e
    exact List.map_eq_nil_iff.mp e)
theorem tb_eq {l : List (Nat × Nat)} : eqD (.list (l.map tbD)) (.list []) = some (.bool (decide (l = []))) := eqD_b (n := 2) (Pln.list pln_tbs) (Pln.list fun d hd => by cases hd) (by decide) (by
  rw [decide_eq_true_eq]
  constructor
  · rintro rfl; rfl
  · intro e
    have e : l.map tbD = [] := by injection e
    exact List.map_eq_nil_iff.mp e)
theorem F_l_bars_eq (h : Ask P cap f cs) : F_l_bars [.int P, .int cap, .int f, .tuple (iL cs), .list ((VL P cap f cs).map (rwD P f cs))] = some (.list (barsL P cap f cs)) := by
  obtain ⟨f1, fP, P24, c9, hlen, hcb⟩ := id h
  have f0 : few 0 = true := by decide
  have f1' : few 1 = true := by decide
  have f2 : few 2 = true := by decide
  have f3 : few 3 = true := by decide
  refine bodyP_of rfl ?_
  unfold S_l_bars
  have em : mulD (.tuple [.int 0]) (.int (f : Int)) = some (.tuple (iL (List.replicate f 0))) := by
    show (if ([PyData.int 0] : List D).length ≤ 1000 ∧ (-1000 : Int) ≤ f ∧ (f : Int) ≤ 1000 then some (PyData.tuple (List.replicate ((f : Int)).toNat [PyData.int 0]).flatten) else none) = _
    rw [if_pos ⟨by decide, by omega, by omega⟩, Int.toNat_natCast, List.flatten_replicate_singleton]
    unfold iL
    rw [List.map_replicate]
  have eg := F_l_grown_eq (fs := List.replicate f 0) f1 fP (by omega) hlen (by simp)
  rw [GL_zero] at eg
  refine .seq (ρ1 := [.im (.int P), .im (.int cap), .im (.int f), .im (.tuple (iL cs)), .im (.list ((VL P cap f cs).map (rwD P f cs))), .im (.tuple (iL (RL f cs P))), .ol [], .un, .un, .un, .un, .un, .un]) (c1 := (0, 0)) (by simp [em, eg, f0, f1']) ?_
  refine .seq (for_run (c1 := (0, 0)) (xs := rngL 0 P) (st := fun i => [.im (.int P), .im (.int cap), .im (.int f), .im (.tuple (iL cs)), .im (.list ((VL P cap f cs).map (rwD P f cs))), .im (.tuple (iL (RL f cs P))), .ol ((tbL P cap f cs i).map tbD), .un, .un, .un, .un, .un, .un]) (by simp [okR_of (show (-1000000 : Int) ≤ P by omega) (by omega)]) rfl fun i x hx => ?_) ?_
  · obtain ⟨hi, rfl⟩ := rngL_lt hx
    refine ⟨_, rfl, then_run (ρ1 := [.im (.int P), .im (.int cap), .im (.int f), .im (.tuple (iL cs)), .im (.list ((VL P cap f cs).map (rwD P f cs))), .im (.tuple (iL (RL f cs P))), .ol ((tbL P cap f cs (i + 1)).map tbD), .im (.int (0 + i)), .un, .un, .un, .un, .un]) ?_ rfl⟩
    rw [tbL_succ]
    have o3 : okR3 ((i : Int) + f) (P : Int) (f : Int) = true := decide_eq_true (by refine ⟨?_, ?_, ?_, ?_⟩ <;> omega)
    have os := oth_size (P := P) f1 (p := i)
    refine (for_run (c1 := (0, 0)) (xs := stpL ((i : Int) + f) f (othN P f i)) (st := fun j => [.im (.int P), .im (.int cap), .im (.int f), .im (.tuple (iL cs)), .im (.list ((VL P cap f cs).map (rwD P f cs))), .im (.tuple (iL (RL f cs P))), .ol ((tbL P cap f cs i ++ tbIn cap f cs i j).map tbD), .im (.int (0 + i)), .un, .un, .un, .un, .un]) (by simp [o3, os]) (by simp [tbIn]) fun j y hy => ?_).trans (by rw [show (stpL ((i : Int) + f) f (othN P f i)).length = othN P f i by unfold stpL; simp])
    obtain ⟨hj, rfl⟩ := stpL_get hy
    have hq := oth_lt f1 hj
    refine ⟨_, rfl, then_run (ρ1 := [.im (.int P), .im (.int cap), .im (.int f), .im (.tuple (iL cs)), .im (.list ((VL P cap f cs).map (rwD P f cs))), .im (.tuple (iL (RL f cs P))), .ol ((tbL P cap f cs i ++ tbIn cap f cs i (j + 1)).map tbD), .im (.int (0 + i)), .im (.int ((i : Int) + f + j * f)), .un, .un, .un, .un]) ?_ rfl⟩
    have ec : (i : Int) + f + (j : Int) * f = ((i + f + j * f : Nat) : Int) := by simp
    have g1 : atI (iL (RL f cs P)) ((i + f + j * f : Nat) : Int) = some (.int (Rf f (gI cs) (i + f + j * f))) := by rw [atI_iL (by rw [RL_len]; exact hq), RL_get hq]
    have g2 : atI (iL (RL f cs P)) (i : Int) = some (.int (Rf f (gI cs) i)) := by rw [atI_iL (by rw [RL_len]; exact hi), RL_get hi]
    have fw : few ((tbL P cap f cs i).length + (tbIn cap f cs i j).length) = true := few_of (by
      have a := tbL_len (P := P) (cap := cap) (cs := cs) f1 (n := i)
      have b := tbIn_len (cap := cap) (f := f) (cs := cs) (p := i) (n := j)
      have c := oth_le (P := P) f1 (p := i)
      have d : i * P ≤ 24 * 24 := Nat.mul_le_mul (by omega) P24
      omega)
    rw [ec, tbIn_succ]
    by_cases g3 : tbOk cap f cs i (i + f + j * f) = true
    · rw [if_pos g3]
      have g4 : (cap : Int) < (if Rf f (gI cs) (i + f + j * f) - Rf f (gI cs) i < 0 then -(Rf f (gI cs) (i + f + j * f) - Rf f (gI cs) i) else Rf f (gI cs) (i + f + j * f) - Rf f (gI cs) i) := of_decide_eq_true g3
      generalize i + f + j * f = q at *
      refine DL.ifT (c1 := (0, 0)) ?_ ?_
      · simp [g1, g2]; exact g4
      · simp [fw, f3]; rfl
    · rw [if_neg g3, List.append_nil]
      have g4 : ¬ (cap : Int) < (if Rf f (gI cs) (i + f + j * f) - Rf f (gI cs) i < 0 then -(Rf f (gI cs) (i + f + j * f) - Rf f (gI cs) i) else Rf f (gI cs) (i + f + j * f) - Rf f (gI cs) i) := fun z => g3 (decide_eq_true z)
      generalize i + f + j * f = q at *
      refine DL.ifF (c1 := (0, 0)) ?_ rfl
      simp [g1, g2]; omega
  rw [rngL_len]
  have ev := vl_eq (P := P) (cap := cap) (f := f) (cs := cs)
  have et := tb_eq (l := tbL P cap f cs P)
  unfold barsL
  by_cases hb : tbL P cap f cs P = [] ∧ VL P cap f cs = []
  · rw [if_pos hb]
    obtain ⟨hb1, hb2⟩ := hb
    rw [decide_eq_true hb2] at ev
    rw [decide_eq_true hb1] at et
    have lp := for_run (c1 := (0, 0)) (c := (0, 0)) (fi := sR1 (sCons (sV 2) sNil)) (tg := qN 11) (body := (sThen [11, 12] (sSeq (sAsg (sOfL (sLc (sR3 (sCons (sV 11) (sCons (sV 0) (sCons (sV 2) sNil)))) (qN 7) sYes (sOp ixD (sV 5) (sV 7)) [7])) (qN 12))
      (sMany [9, 10] (sAvP (sOp subD (sV 9) (sCB minS (sCons (sV 12) sNil))) (sAvP (sOp subD (sOp addD (sV 10) (sV 1)) (sCB maxS (sCons (sV 12) sNil))) sAvNil)))))) (ρ := [.im (.int P), .im (.int cap), .im (.int f), .im (.tuple (iL cs)), .im (.list ((VL P cap f cs).map (rwD P f cs))), .im (.tuple (iL (RL f cs P))), .ol [], .un, .un, .im (.int 0), .im (.int 0), .un, .un]) (xs := rngL 0 f) (st := fun i => [.im (.int P), .im (.int cap), .im (.int f), .im (.tuple (iL cs)), .im (.list ((VL P cap f cs).map (rwD P f cs))), .im (.tuple (iL (RL f cs P))), .ol [], .un, .un, .im (.int (sumN i (loS f (gI cs) P))), .im (.int (sumN i (hiS (cap : Int) f (gI cs) P))), .un, .un]) (by simp [okR_of (show (-1000000 : Int) ≤ f by omega) (by omega)]) rfl fun t x hx => by
        obtain ⟨ht, rfl⟩ := rngL_lt hx
        rw [show (0 : Int) + (t : Int) = (t : Int) by omega]
        refine ⟨_, rfl, then_run (ρ1 := [.im (.int P), .im (.int cap), .im (.int f), .im (.tuple (iL cs)), .im (.list ((VL P cap f cs).map (rwD P f cs))), .im (.tuple (iL (RL f cs P))), .ol [], .un, .un, .im (.int (sumN (t + 1) (loS f (gI cs) P))), .im (.int (sumN (t + 1) (hiS (cap : Int) f (gI cs) P))), .im (.int (t : Int)), .im (.list (iL (ups f (gI cs) P t)))]) ?_ rfl⟩
        have l1 := lcS_map (tg := qN 7) (e := sOp ixD (sV 5) (sV 7)) (ρ0 := [.im (.int P), .im (.int cap), .im (.int f), .im (.tuple (iL cs)), .im (.list ((VL P cap f cs).map (rwD P f cs))), .im (.tuple (iL (RL f cs P))), .ol [], .un, .un, .im (.int (sumN t (loS f (gI cs) P))), .im (.int (sumN t (hiS (cap : Int) f (gI cs) P))), .im (.int (t : Int)), .un]) (xs := iL ((Pl t P f).map fun p : Nat => (p : Int))) (c := (0, 0)) (fun d => match d with | .int p => .int (Rf f (gI cs) p.toNat) | d => d) (fun x hx => by
          obtain ⟨i, hi, rfl⟩ := List.mem_map.mp hx
          obtain ⟨p, hp, rfl⟩ := List.mem_map.mp hi
          have hpP := ((mem_Pl f1 ht fP).mp hp).1
          have g2 : atI (iL (RL f cs P)) (p : Int) = some (.int (Rf f (gI cs) p)) := by rw [atI_iL (by rw [RL_len]; exact hpP), RL_get hpP]
          refine ⟨_, rfl, ?_⟩
          show _ = some (PyData.int (Rf f (gI cs) ((p : Nat) : Int).toNat), _)
          rw [show (((p : Nat) : Int)).toNat = p by omega]
          simp only [ev_sOp, ev_sV, ev_qN, List.set_cons_succ, List.set_cons_zero, List.getElem?_cons_succ, List.getElem?_cons_zero, Option.bind_some, ev_ixT, g2])
        have e1 : (iL ((Pl t P f).map fun p : Nat => (p : Int))).map (fun d => match d with | .int p => PyData.int (Rf f (gI cs) p.toNat) | d => d) = iL (ups f (gI cs) P t) := by
          unfold iL ups
          rw [List.map_map, List.map_map, List.map_map]
          refine List.map_congr_left fun p _ => ?_
          show PyData.int (Rf f (gI cs) ((p : Nat) : Int).toNat) = .int (Rf f (gI cs) p)
          rw [show (((p : Nat) : Int)).toNat = p by omega]
        rw [e1] at l1
        have es := stp_Pl (P := P) f1 fP ht
        have o3 : okR3 (t : Int) (P : Int) (f : Int) = true := decide_eq_true (by refine ⟨?_, ?_, ?_, ?_⟩ <;> omega)
        have fe : few (iL ((Pl t P f).map fun p : Nat => (p : Int))).length = true := few_of (by
          rw [iL_len, List.length_map]
          unfold Pl
          rw [List.length_map, List.length_range]
          have := Nat.div_le_self (P - t - 1) f
          omega)
        have un := ups_ne (f := f) (c := gI cs) (P := P) (t := t)
        refine seq_run (ρ1 := [.im (.int P), .im (.int cap), .im (.int f), .im (.tuple (iL cs)), .im (.list ((VL P cap f cs).map (rwD P f cs))), .im (.tuple (iL (RL f cs P))), .ol [], .un, .un, .im (.int (sumN t (loS f (gI cs) P))), .im (.int (sumN t (hiS (cap : Int) f (gI cs) P))), .im (.int (t : Int)), .im (.list (iL (ups f (gI cs) P t)))]) (c1 := (0, 0)) ?_ ?_
        · simp only [ev_sAsg, ev_sOfL, ev_sLc, ev_sR3, ev_sCons, ev_sNil, ev_sV, List.set_cons_succ, List.set_cons_zero, List.getElem?_cons_succ, List.getElem?_cons_zero, Option.bind_some, o3, if_true, es, fe, ev_wipe0, ev_wipe1, l1, ev_qN]
        · have z1 : sumN t (loS f (gI cs) P) - minL (ups f (gI cs) P t) = sumN (t + 1) (loS f (gI cs) P) := by
            show _ = sumN t (loS f (gI cs) P) + (0 - minL (ups f (gI cs) P t))
            omega
          have z2 : sumN t (hiS (cap : Int) f (gI cs) P) + (cap : Int) - maxL (ups f (gI cs) P t) = sumN (t + 1) (hiS (cap : Int) f (gI cs) P) := by
            show _ = sumN t (hiS (cap : Int) f (gI cs) P) + ((cap : Int) - maxL (ups f (gI cs) P t))
            omega
          simp only [ev_sMany, ev_sAvP, ev_sAvNil, ev_sOp, ev_sV, ev_sCB, ev_sCons, ev_sNil, List.getElem?_cons_succ, List.getElem?_cons_zero, Option.bind_some, minS_iL un, maxS_iL un, ev_addII, ev_subII, z1, z2, List.length_cons, List.length_nil, if_true, ev_setAv, ev_setAv0, ev_slP, List.set_cons_succ, List.set_cons_zero]
    rw [rngL_len] at lp
    have c0 := c0_at h
    refine .seq (ρ1 := [.im (.int P), .im (.int cap), .im (.int f), .im (.tuple (iL cs)), .im (.list ((VL P cap f cs).map (rwD P f cs))), .im (.tuple (iL (RL f cs P))), .ol [fmD P cap f cs], .un, .un, .un, .un, .un, .un]) (c1 := (0, 0)) (DL.ifT (c1 := (0, 0)) ?_ (then_run (ρ1 := [.im (.int P), .im (.int cap), .im (.int f), .im (.tuple (iL cs)), .im (.list ((VL P cap f cs).map (rwD P f cs))), .im (.tuple (iL (RL f cs P))), .ol [fmD P cap f cs], .un, .un, .im (.int (sumN f (loS f (gI cs) P))), .im (.int (sumN f (hiS (cap : Int) f (gI cs) P))), .un, .un]) (seq_run (ρ1 := [.im (.int P), .im (.int cap), .im (.int f), .im (.tuple (iL cs)), .im (.list ((VL P cap f cs).map (rwD P f cs))), .im (.tuple (iL (RL f cs P))), .ol [], .un, .un, .im (.int 0), .im (.int 0), .un, .un]) (c1 := (0, 0)) ?_ (seq_run lp ?_)) rfl)) (.frz rfl (.ret rfl rfl))
    · rw [hb1] at et ⊢
      simp only [List.map_nil] at et ⊢
      simp only [ev_sAnd, ev_sFlT, ev_sB, ev_sOp, ev_sV, ev_sLst, ev_sNil, List.set_cons_succ, List.set_cons_zero, List.getElem?_cons_succ, List.getElem?_cons_zero, Option.bind_some, List.length_nil, f0, if_true, et, ev]
    · rw [hb1]
      simp only [ev_sMany, ev_sAvP, ev_sAvNil, ev_sC, Option.bind_some, List.length_cons, List.length_nil, if_true, ev_setAv, ev_setAv0, ev_slP, List.set_cons_succ, List.set_cons_zero]
      rfl
    · unfold fmD
      by_cases hm : sumN f (hiS (cap : Int) f (gI cs) P) < gI cs 0
      · rw [if_pos hm]
        simp only [ev_sApp, ev_sIfE, ev_sB, ev_sOp, ev_sV, ev_sC, List.getElem?_cons_succ, List.getElem?_cons_zero, Option.bind_some, ev_ixT, c0, ev_cmpII, decide_eq_true hm, if_true, ev_sTup, ev_sCons, ev_sNil, List.length_cons, List.length_nil, Nat.zero_add, f2, f0, List.set_cons_succ, List.set_cons_zero]
        rfl
      · rw [if_neg hm]
        simp only [ev_sApp, ev_sIfE, ev_sB, ev_sOp, ev_sV, ev_sC, List.getElem?_cons_succ, List.getElem?_cons_zero, Option.bind_some, ev_ixT, c0, ev_cmpII, decide_eq_false hm, Bool.false_eq_true, if_false, if_true, ev_sTup, ev_sCons, ev_sNil, List.length_cons, List.length_nil, Nat.zero_add, f2, f0, List.set_cons_succ, List.set_cons_zero]
        rfl
  · rw [if_neg hb]
    refine .seq (DL.ifF (c1 := (0, 0)) ?_ rfl) (.frz rfl (.ret rfl rfl))
    by_cases hb1 : tbL P cap f cs P = []
    · have hb2 : ¬ VL P cap f cs = [] := fun w => hb ⟨hb1, w⟩
      rw [decide_eq_true hb1] at et
      rw [decide_eq_false hb2] at ev
      simp only [ev_sAnd, ev_sFlT, ev_sB, ev_sOp, ev_sV, ev_sLst, ev_sNil, List.set_cons_succ, List.set_cons_zero, List.getElem?_cons_succ, List.getElem?_cons_zero, Option.bind_some, List.length_nil, f0, if_true, et, ev]
    · rw [decide_eq_false hb1] at et
      simp only [ev_sAnd, ev_sFlT, ev_sB, ev_sOp, ev_sV, ev_sLst, ev_sNil, List.set_cons_succ, List.set_cons_zero, List.getElem?_cons_succ, List.getElem?_cons_zero, Option.bind_some, List.length_nil, f0, if_true, et, Bool.false_eq_true, if_false]
end
end X
namespace X
open PySem PySem.Spec L2 DL DM
/-- the form of a bar -/
def barF (ys : List D) : Bool := (decide (ys.length = 2) || decide (ys.length = 3)) && ((ys.head?.map (isB .str)).getD false && (ys.drop 1).all (btw (-10000) 10000))
theorem barF_at {ys : List D} (h : barF ys = true) : ∃ x zs, ys = .str x :: zs ∧ ∀ z ∈ zs, ∃ i : Int, z = .int i ∧ -10000 ≤ i ∧ i ≤ 10000 := by
  unfold barF at h
  rw [Bool.and_eq_true, Bool.and_eq_true] at h
  obtain ⟨_, h1, h2⟩ := h
  cases ys with
  | nil => cases h1
  | cons y zs =>
    have h1 : isB .str y = true := h1
    obtain ⟨x, rfl⟩ := isStr h1
    exact ⟨x, zs, rfl, fun z hz => btw_int (List.all_eq_true.mp h2 z hz)⟩
section
variable {P cap f : Nat} {cs : List Int} {d : D}
/-- what is_bar says of a thing -/
def isbR (P cap f : Nat) (cs : List Int) (d : D) : Bool := match tupOf d with
  | some ys => barF ys && (if tbL P cap f cs P ≠ [] then ((tbL P cap f cs P).map tbD).any fun z => PyData.eqv z d else PyData.eqv d (barD P cap f cs))
  | none => false
theorem pln_bar : Pln 1 (barD P cap f cs) := by
  unfold barD
  split
  · exact pln_none
  · split
    · exact pln_tb
    · split
      · exact .tuple fun e he => by
          simp only [List.mem_cons, List.not_mem_nil, or_false] at he
          rcases he with rfl | rfl
          · exact pln_many
          · exact pln_int
      · exact .tuple fun e he => by
          simp only [List.mem_cons, List.not_mem_nil, or_false] at he
          rcases he with rfl | rfl
          · exact pln_few
          · exact pln_int
theorem F_is_bar_any {n k : Nat} (h : Ask P cap f cs) (hd : Gd n k d) (hn : n ≤ 1000) (hk : k + 1 ≤ 64) : F_is_bar [.int P, .int cap, .int f, .tuple (iL cs), d] = some (.bool (isbR P cap f cs d)) := by
  have eb := F_thread_bars_eq h
  have ebar := F_bar_eq h
  have f0 : few 0 = true := by decide
  have f2 : few 2 = true := by decide
  unfold isbR
  refine bodyP_of rfl ?_
  unfold S_is_bar
  rcases tup_cases d with ⟨ys, rfl⟩ | hno
  · have hl := hd.ofTuple.1
    show Runs _ _ _ (IsRt (.bool (barF ys && (if tbL P cap f cs P ≠ [] then ((tbL P cap f cs P).map tbD).any fun z => PyData.eqv z (.tuple ys) else PyData.eqv (.tuple ys) (barD P cap f cs)))))
    have sh2 : SeqAt.shaped (.tuple [.int 2, .int 3]) = true := by decide +kernel
    have shi : SeqAt.shaped (.int (ys.length : Int)) = true := pln_int.shaped (n := 0) (by decide)
    have e23 : notInD (.int (ys.length : Int)) (.tuple [.int 2, .int 3]) = some (.bool (!(decide (ys.length = 2) || decide (ys.length = 3)))) := by
      show (if SeqAt.shaped (.int (ys.length : Int)) = true ∧ SeqAt.shaped (.tuple [.int 2, .int 3]) = true then some (PyData.bool (!([PyData.int 2, .int 3].any fun z => PyData.eqv z (.int (ys.length : Int))))) else none) = _
      rw [if_pos ⟨shi, sh2⟩]
      congr 2
      have q : ∀ i : Int, PyData.eqv (.int i) (.int (ys.length : Int)) = decide (i = (ys.length : Int)) := fun i => by
        have := eqv_eq (.int i) (.int (ys.length : Int)) (by simp [nob]) (by simp [nob])
        by_cases z : i = (ys.length : Int)
        · rw [decide_eq_true z]; exact this.mpr (by rw [z])
        · rw [decide_eq_false z]
          cases w : PyData.eqv (.int i) (.int (ys.length : Int)) with
          | false => rfl
          | true => exact absurd (by have := this.mp w; injection this) z
      simp only [List.any_cons, List.any_nil, Bool.or_false, q]
      congr 1
      congr 1
      · exact decide_eq_decide.mpr (by omega)
      · exact decide_eq_decide.mpr (by omega)
    cases hb : barF ys with
    | false =>
      rw [Bool.false_and]
      cases h23 : (decide (ys.length = 2) || decide (ys.length = 3)) with
      | false =>
        rw [h23] at e23
        refine .leave (c1 := (0, 0)) (c2 := (0, 0)) (d := .bool false) ?_ rfl rfl
        simp only [ev_sOr, ev_sNot, ev_sB, ev_sIsi, ev_sOp, ev_sCB, ev_sCons, ev_sNil, ev_sTup, ev_sV, ev_sC, List.map_cons, List.map_nil, List.cons_append, List.nil_append, List.replicate_succ, List.replicate_zero, List.getElem?_cons_succ, List.getElem?_cons_zero, Option.bind_some, isTup_yes, Bool.not_true, Bool.false_eq_true, if_false, ev_lenT, List.length_cons, List.length_nil, Nat.zero_add, f2, if_true, e23, Bool.not_false]
      | true =>
        rw [h23] at e23
        obtain ⟨y, zs, rfl⟩ : ∃ y zs, ys = y :: zs := by
          cases ys with
          | nil => simp at h23
          | cons y zs => exact ⟨y, zs, rfl⟩
        have ea : atI (y :: zs) 0 = some y := atI_nat (j := 0) rfl
        unfold barF at hb
        rw [h23, Bool.true_and] at hb
        have hb : (isB .str y && zs.all (btw (-10000) 10000)) = false := hb
        cases hs : isB .str y with
        | false =>
          refine .leave (c1 := (0, 0)) (c2 := (0, 0)) (d := .bool false) ?_ rfl rfl
          simp only [ev_sOr, ev_sNot, ev_sB, ev_sIsi, ev_sOp, ev_sCB, ev_sCons, ev_sNil, ev_sTup, ev_sV, ev_sC, List.map_cons, List.map_nil, List.cons_append, List.nil_append, List.replicate_succ, List.replicate_zero, List.getElem?_cons_succ, List.getElem?_cons_zero, Option.bind_some, isTup_yes, Bool.not_true, Bool.false_eq_true, if_false, ev_lenT, List.length_cons, List.length_nil, Nat.zero_add, f2, if_true]
          rw [List.length_cons] at e23
          simp only [e23, Option.bind_some, Bool.not_true, Bool.false_eq_true, if_false, ev_ixT, ea, hs, Bool.not_false]
        | true =>
          rw [hs, Bool.true_and] at hb
          refine .pass (c1 := (0, 0)) (by
            simp only [ev_sOr, ev_sNot, ev_sB, ev_sIsi, ev_sOp, ev_sCB, ev_sCons, ev_sNil, ev_sTup, ev_sV, ev_sC, List.map_cons, List.map_nil, List.cons_append, List.nil_append, List.replicate_succ, List.replicate_zero, List.getElem?_cons_succ, List.getElem?_cons_zero, Option.bind_some, isTup_yes, Bool.not_true, Bool.false_eq_true, if_false, ev_lenT, List.length_cons, List.length_nil, Nat.zero_add, f2, if_true]
            rw [List.length_cons] at e23
            simp only [e23, Option.bind_some, Bool.not_true, Bool.false_eq_true, if_false, ev_ixT, ea, hs]) ?_
          have pw : powD (.int 10) (.int 4) = some (.int 10000) := rfl
          have fz : few zs.length = true := few_of (by rw [List.length_cons] at hl; omega)
          have c1 : cutL (y :: zs) (some 1) none = zs := by rw [cut_1]; rfl
          have l1 := lcS_map (tg := qN 6) (e := sCall F_is_between (sCons (sV 6) (sCons (sUn negD (sOp powD (sC (.int 10)) (sC (.int 4)))) (sCons (sOp powD (sC (.int 10)) (sC (.int 4))) sNil)))) (ρ0 := [.im (.int P), .im (.int cap), .im (.int f), .im (.tuple (iL cs)), .im (.tuple (y :: zs)), .un, .un]) (xs := zs) (c := (0, 0)) (fun d => .bool (btw (-10000) 10000 d)) (fun x _ => ⟨_, rfl, by simp only [ev_sCall, ev_sCons, ev_sNil, ev_sUn, ev_sOp, ev_sC, ev_sV, ev_qN, List.set_cons_succ, List.set_cons_zero, List.getElem?_cons_succ, List.getElem?_cons_zero, Option.bind_some, pw, ev_negI, F_is_btw_eq]⟩)
          have ha := hb
          refine .leave (c1 := (0, 0)) (c2 := (0, 0)) (d := .bool false) ?_ rfl rfl
          simp only [ev_sNot, ev_sB, ev_sCB, ev_sCons, ev_sNil, ev_sOfL, ev_sLc, ev_sItT, ev_sSl, ev_sP, ev_sNoP, ev_sC, ev_sV, List.map_cons, List.map_nil, List.cons_append, List.nil_append, List.replicate_succ, List.replicate_zero, List.getElem?_cons_succ, List.getElem?_cons_zero, Option.bind_some, ev_slT, c1, fz, if_true, ev_wipe0, ev_wipe1, List.set_cons_succ, List.set_cons_zero, l1, allD_map, ha, Bool.not_false, Bool.not_true]
    | true =>
      rw [Bool.true_and]
      have h23 : (decide (ys.length = 2) || decide (ys.length = 3)) = true := by
        unfold barF at hb
        rw [Bool.and_eq_true] at hb; exact hb.1
      rw [h23] at e23
      have htl : ∀ y zs, ys = y :: zs → isB .str y = true ∧ zs.all (btw (-10000) 10000) = true := fun y zs e => by
        subst e
        unfold barF at hb
        rw [h23, Bool.true_and] at hb
        have hb : (isB .str y && zs.all (btw (-10000) 10000)) = true := hb
        rw [Bool.and_eq_true] at hb; exact hb
      obtain ⟨y, zs, rfl⟩ : ∃ y zs, ys = y :: zs := by
        cases ys with
        | nil => simp at h23
        | cons y zs => exact ⟨y, zs, rfl⟩
      have ea : atI (y :: zs) 0 = some y := atI_nat (j := 0) rfl
      obtain ⟨hs, ha⟩ := htl y zs rfl
      refine .pass (c1 := (0, 0)) (by
        simp only [ev_sOr, ev_sNot, ev_sB, ev_sIsi, ev_sOp, ev_sCB, ev_sCons, ev_sNil, ev_sTup, ev_sV, ev_sC, List.map_cons, List.map_nil, List.cons_append, List.nil_append, List.replicate_succ, List.replicate_zero, List.getElem?_cons_succ, List.getElem?_cons_zero, Option.bind_some, isTup_yes, Bool.not_true, Bool.false_eq_true, if_false, ev_lenT, List.length_cons, List.length_nil, Nat.zero_add, f2, if_true]
        rw [List.length_cons] at e23
        simp only [e23, Option.bind_some, Bool.not_true, Bool.false_eq_true, if_false, ev_ixT, ea, hs]) ?_
      have pw : powD (.int 10) (.int 4) = some (.int 10000) := rfl
      have fz : few zs.length = true := few_of (by rw [List.length_cons] at hl; omega)
      have c1 : cutL (y :: zs) (some 1) none = zs := by rw [cut_1]; rfl
      have l1 := lcS_map (tg := qN 6) (e := sCall F_is_between (sCons (sV 6) (sCons (sUn negD (sOp powD (sC (.int 10)) (sC (.int 4)))) (sCons (sOp powD (sC (.int 10)) (sC (.int 4))) sNil)))) (ρ0 := [.im (.int P), .im (.int cap), .im (.int f), .im (.tuple (iL cs)), .im (.tuple (y :: zs)), .un, .un]) (xs := zs) (c := (0, 0)) (fun d => .bool (btw (-10000) 10000 d)) (fun x _ => ⟨_, rfl, by simp only [ev_sCall, ev_sCons, ev_sNil, ev_sUn, ev_sOp, ev_sC, ev_sV, ev_qN, List.set_cons_succ, List.set_cons_zero, List.getElem?_cons_succ, List.getElem?_cons_zero, Option.bind_some, pw, ev_negI, F_is_btw_eq]⟩)
      refine .pass (c1 := (0, 0)) (by
        simp only [ev_sNot, ev_sB, ev_sCB, ev_sCons, ev_sNil, ev_sOfL, ev_sLc, ev_sItT, ev_sSl, ev_sP, ev_sNoP, ev_sC, ev_sV, List.map_cons, List.map_nil, List.cons_append, List.nil_append, List.replicate_succ, List.replicate_zero, List.getElem?_cons_succ, List.getElem?_cons_zero, Option.bind_some, ev_slT, c1, fz, if_true, ev_wipe0, ev_wipe1, List.set_cons_succ, List.set_cons_zero, l1, allD_map, ha, Bool.not_false, Bool.not_true]) ?_
      have shd : SeqAt.shaped (.tuple (y :: zs)) = true := hd.shaped (by omega)
      refine .seq (ρ1 := [.im (.int P), .im (.int cap), .im (.int f), .im (.tuple (iL cs)), .im (.tuple (y :: zs)), .im (.list ((tbL P cap f cs P).map tbD)), .un]) (c1 := (0, 0)) (by simp only [ev_sAsg, ev_sCall, ev_sCons, ev_sNil, ev_sV, List.map_cons, List.map_nil, List.cons_append, List.nil_append, List.replicate_succ, List.replicate_zero, List.getElem?_cons_succ, List.getElem?_cons_zero, Option.bind_some, eb, ev_qN, List.set_cons_succ, List.set_cons_zero]) ?_
      have en := ne_nil (l := tbL P cap f cs P)
      by_cases ht : tbL P cap f cs P ≠ []
      · rw [if_pos ht]
        rw [decide_eq_true ht] at en
        have ei : inD (.tuple (y :: zs)) (.list ((tbL P cap f cs P).map tbD)) = some (.bool (((tbL P cap f cs P).map tbD).any fun z => PyData.eqv z (.tuple (y :: zs)))) := by
          show (if SeqAt.shaped (.tuple (y :: zs)) = true ∧ SeqAt.shaped (.list ((tbL P cap f cs P).map tbD)) = true then _ else none) = _
          rw [if_pos ⟨shd, (Pln.list pln_tbs).shaped (by decide)⟩]
        refine .leave (c1 := (0, 0)) (c2 := (0, 0)) (d := .bool (((tbL P cap f cs P).map tbD).any fun z => PyData.eqv z (.tuple (y :: zs)))) ?_ ?_ rfl
        · simp only [ev_sB, ev_sOp, ev_sV, ev_sLst, ev_sNil, List.getElem?_cons_succ, List.getElem?_cons_zero, Option.bind_some, List.length_nil, f0, if_true, en]
        · simp only [ev_sOp, ev_sV, List.getElem?_cons_succ, List.getElem?_cons_zero, Option.bind_some, ei]
      · rw [if_neg ht]
        rw [decide_eq_false ht] at en
        have ee : eqD (.tuple (y :: zs)) (barD P cap f cs) = some (.bool (PyData.eqv (.tuple (y :: zs)) (barD P cap f cs))) := by
          unfold eqD
          rw [if_pos ⟨shd, pln_bar.shaped (by decide)⟩]
        refine .pass (c1 := (0, 0)) (by simp only [ev_sB, ev_sOp, ev_sV, ev_sLst, ev_sNil, List.getElem?_cons_succ, List.getElem?_cons_zero, Option.bind_some, List.length_nil, f0, if_true, en]) ?_
        refine .ret (d := .bool (PyData.eqv (.tuple (y :: zs)) (barD P cap f cs))) (c1 := (0, 0)) ?_ rfl
        simp only [ev_sOp, ev_sV, ev_sCall, ev_sCons, ev_sNil, List.getElem?_cons_succ, List.getElem?_cons_zero, Option.bind_some, ebar, ee]
  · exact .leave (c1 := (0, 0)) (c2 := (0, 0)) (d := .bool false) (by simp [isTup_no hno]) rfl (by simp [hno])
end
end X
namespace X
open PySem PySem.Spec L2 DL DM
theorem eqv_str {x : Str} {y : D} (h : PyData.eqv (.str x) y = true) : isB .str y = true := by
  cases y <;> simp [PyData.eqv] at h ⊢ <;> rfl
theorem eqv_int {i : Int} {y : D} (h : PyData.eqv (.int i) y = true) (hb : isB .bool y = false) : y = .int i := by
  cases y with
  | int j => simp [PyData.eqv] at h; rw [h]
  | bool b => cases hb
  | _ => simp [PyData.eqv] at h
def noB (ys : List D) : Bool := ys.all fun y => !isB .bool y
def goodB (P cap f : Nat) (cs : List Int) (d : D) : Bool := (barsL P cap f cs).any (fun z => PyData.eqv z d) && (match tupOf d with | some ys => noB ys | none => false)
section
variable {P cap f : Nat} {cs : List Int} {d : D}
theorem bar_shape (h : Ask P cap f cs) {z : D} (hz : z ∈ barsL P cap f cs) : ∃ x is, z = .tuple (.str x :: iL is) ∧ (is.length = 1 ∨ is.length = 2) ∧ ∀ i ∈ is, -10000 ≤ i ∧ i ≤ 10000 := by
  have hP := h.P24
  unfold barsL at hz
  by_cases hc : tbL P cap f cs P = [] ∧ VL P cap f cs = []
  · rw [if_pos hc] at hz
    have ok := (tbL_nil h.f1 h.fP).mp hc.1
    have ss := span_sum h ok
    rw [sumLo_SPL, sumHi_SPL] at ss
    rw [List.mem_singleton] at hz
    subst hz
    unfold fmD
    split
    · exact ⟨"many", [_], rfl, .inl rfl, fun i hi => by rw [List.mem_singleton] at hi; subst hi; omega⟩
    · exact ⟨"few", [_], rfl, .inl rfl, fun i hi => by rw [List.mem_singleton] at hi; subst hi; omega⟩
  · rw [if_neg hc] at hz
    obtain ⟨p, hp, rfl⟩ := List.mem_map.mp hz
    have hm := tbL_mem (P := P) (cap := cap) (cs := cs) h.f1 hp
    refine ⟨"thread", [(p.1 : Int), (p.2 : Int)], rfl, .inr rfl, fun i hi => ?_⟩
    simp only [List.mem_cons, List.not_mem_nil, or_false] at hi
    rcases hi with rfl | rfl <;> omega
theorem eqvA_ints : ∀ {is : List Int} {ys : List D}, PyData.eqvAll (iL is) ys = true → noB ys = true → ys = iL is
  | [], [], _, _ => rfl
  | [], _ :: _, h, _ => by simp [iL, PyData.eqvAll] at h
  | _ :: _, [], h, _ => by simp [iL, PyData.eqvAll] at h
  | i :: is, y :: ys, h, hn => by
    have h : (PyData.eqv (.int i) y && PyData.eqvAll (iL is) ys) = true := by
      have : PyData.eqvAll (.int i :: iL is) (y :: ys) = true := h
      rw [PyData.eqvAll] at this; exact this
    unfold noB at hn
    rw [List.all_cons] at hn
    rw [Bool.and_eq_true] at h hn
    rw [eqv_int h.1 (by simpa using hn.1), eqvA_ints h.2 hn.2]; rfl
theorem isbR_good {n k : Nat} (h : Ask P cap f cs) (hd : Gd n k d) : isbR P cap f cs d = goodB P cap f cs d := by
  unfold isbR goodB
  rcases tup_cases d with ⟨ys, rfl⟩ | hno
  · show (barF ys && (if tbL P cap f cs P ≠ [] then ((tbL P cap f cs P).map tbD).any fun z => PyData.eqv z (.tuple ys) else PyData.eqv (.tuple ys) (barD P cap f cs))) = ((barsL P cap f cs).any (fun z => PyData.eqv z (.tuple ys)) && noB ys)
    cases hb : barF ys with
    | true =>
      obtain ⟨x, zs, rfl, hz⟩ := barF_at hb
      have hnb : noB (.str x :: zs) = true := by
        unfold noB
        rw [List.all_cons, Bool.and_eq_true]
        refine ⟨rfl, List.all_eq_true.mpr fun z hm => ?_⟩
        obtain ⟨i, rfl, _⟩ := hz z hm
        rfl
      rw [hnb, Bool.true_and, Bool.and_true]
      by_cases ht : tbL P cap f cs P ≠ []
      · rw [if_pos ht]
        unfold barsL
        rw [if_neg (fun w => ht w.1)]
      · rw [if_neg ht]
        have ht : tbL P cap f cs P = [] := Classical.byContradiction ht
        unfold barsL barD
        by_cases hf : 0 < fitV P cap f (gI cs)
        · have hv := (VL_pos h).mp hf
          rw [if_pos hf, if_neg (fun w => hv w.2), ht]
          simp [PyData.eqv]
        · have hv : VL P cap f cs = [] := Classical.byContradiction fun w => hf ((VL_pos h).mpr w)
          rw [if_neg hf, if_pos (show tbL P cap f cs P = [] ∧ VL P cap f cs = [] from ⟨ht, hv⟩), ht]
          have nd : nob (.tuple (.str x :: zs)) = true := by
            rw [nob]
            refine nobA_iff.mpr fun e he => ?_
            rcases List.mem_cons.mp he with rfl | he
            · have := gd_lay _ ((hd.ofTuple.2.choose_spec.2 (.str x) List.mem_cons_self).1)
              rw [nob]; exact this
            · obtain ⟨i, rfl, _⟩ := hz e he
              simp [nob]
          have nf : nob (fmD P cap f cs) = true := by
            unfold fmD
            split
            · rw [nob]
              exact nobA_iff.mpr fun e he => by
                simp only [List.mem_cons, List.not_mem_nil, or_false] at he
                rcases he with rfl | rfl
                · exact (pln_many (n := 0)).1
                · simp [nob]
            · rw [nob]
              exact nobA_iff.mpr fun e he => by
                simp only [List.mem_cons, List.not_mem_nil, or_false] at he
                rcases he with rfl | rfl
                · exact (pln_few (n := 0)).1
                · simp [nob]
          have ef : (if sumHi (SPL (cap : Int) f (gI cs) P) < gI cs 0 then PyData.tuple [.str "many", .int (sumHi (SPL (cap : Int) f (gI cs) P))] else .tuple [.str "few", .int (sumLo (SPL (cap : Int) f (gI cs) P))]) = fmD P cap f cs := by
            rw [sumHi_SPL, sumLo_SPL]; rfl
          show PyData.eqv _ (if sumHi (SPL (cap : Int) f (gI cs) P) < gI cs 0 then PyData.tuple [.str "many", .int (sumHi (SPL (cap : Int) f (gI cs) P))] else .tuple [.str "few", .int (sumLo (SPL (cap : Int) f (gI cs) P))]) = ([fmD P cap f cs].any fun z => PyData.eqv z (.tuple (.str x :: zs)))
          rw [ef, List.any_cons, List.any_nil, Bool.or_false]
          exact bool_eq (eqv_eq _ _ nd nf) ((eqv_eq _ _ nf nd).trans eq_comm)
    | false =>
      rw [Bool.false_and]
      symm
      rw [Bool.and_eq_false_iff]
      refine Classical.byContradiction fun hn => ?_
      have h1 : ((barsL P cap f cs).any fun z => PyData.eqv z (.tuple ys)) = true := by
        cases q : ((barsL P cap f cs).any fun z => PyData.eqv z (.tuple ys)) with
        | true => rfl
        | false => exact absurd (.inl q) hn
      have h2 : noB ys = true := by
        cases q : noB ys with
        | true => rfl
        | false => exact absurd (.inr q) hn
      obtain ⟨z, hz, he⟩ := List.any_eq_true.mp h1
      obtain ⟨x, is, rfl, hl, hi⟩ := bar_shape h hz
      have he : PyData.eqvAll (.str x :: iL is) ys = true := by rw [PyData.eqv] at he; exact he
      cases ys with
      | nil => simp [PyData.eqvAll] at he
      | cons y zs =>
        rw [PyData.eqvAll, Bool.and_eq_true] at he
        have h2' : noB zs = true := by
          unfold noB at h2 ⊢
          rw [List.all_cons, Bool.and_eq_true] at h2; exact h2.2
        have hzs := eqvA_ints he.2 h2'
        subst hzs
        have : barF (y :: iL is) = true := by
          unfold barF
          rw [Bool.and_eq_true]
          refine ⟨?_, ?_⟩
          · rw [List.length_cons, iL_len]
            rcases hl with e | e <;> rw [e] <;> rfl
          · show (isB .str y && (iL is).all (btw (-10000) 10000)) = true
            rw [eqv_str he.1, Bool.true_and, List.all_eq_true]
            intro w hw
            obtain ⟨i, hm, rfl⟩ := List.mem_map.mp hw
            have := hi i hm
            show (decide (-10000 ≤ i) && decide (i ≤ 10000)) = true
            rw [decide_eq_true this.1, decide_eq_true this.2]; rfl
        rw [this] at hb; cases hb
  · rw [hno, Bool.and_false]
end
end X
namespace X
open PySem PySem.Spec L2 DL DM
def fewL (cap f n : Nat) : Bool := (List.range (cap * f + 1)).all fun s => decide (((lotsN cap f).filter fun l => decide (l.sum = (s : Int))).length < n)
theorem few1 : ∀ f, f ≤ 5 → fewL 1 f 64 = true
  | 0, _ => by decide +kernel
  | 1, _ => by decide +kernel
  | 2, _ => by decide +kernel
  | 3, _ => by decide +kernel
  | 4, _ => by decide +kernel
  | 5, _ => by decide +kernel
  | n + 6, h => absurd h (by omega)
theorem few2 : ∀ f, f ≤ 5 → fewL 2 f 64 = true
  | 0, _ => by decide +kernel
  | 1, _ => by decide +kernel
  | 2, _ => by decide +kernel
  | 3, _ => by decide +kernel
  | 4, _ => by decide +kernel
  | 5, _ => by decide +kernel
  | n + 6, h => absurd h (by omega)
theorem few3 : ∀ f, f ≤ 4 → fewL 3 f 64 = true
  | 0, _ => by decide +kernel
  | 1, _ => by decide +kernel
  | 2, _ => by decide +kernel
  | 3, _ => by decide +kernel
  | 4, _ => by decide +kernel
  | n + 5, h => absurd h (by omega)
theorem few9 : ∀ f, f ≤ 2 → fewL 9 f 64 = true
  | 0, _ => by decide +kernel
  | 1, _ => by decide +kernel
  | 2, _ => by decide +kernel
  | n + 3, h => absurd h (by omega)
theorem few5 : ∀ f, f ≤ 3 → fewL 5 f 64 = true
  | 0, _ => by decide +kernel
  | 1, _ => by decide +kernel
  | 2, _ => by decide +kernel
  | 3, _ => by decide +kernel
  | n + 4, h => absurd h (by omega)
theorem few4 : ∀ f, f ≤ 1 → fewL 4 f 64 = true
  | 0, _ => by decide +kernel
  | 1, _ => by decide +kernel
  | n + 2, h => absurd h (by omega)
/-- the law's caps and frames -/
def SmC (cap f : Nat) : Prop := (cap = 1 ∧ f ≤ 5) ∨ (cap = 2 ∧ f ≤ 5) ∨ (cap = 3 ∧ f ≤ 4) ∨ (cap = 9 ∧ f ≤ 2) ∨ (cap = 5 ∧ f ≤ 3) ∨ (cap = 4 ∧ f ≤ 1)
theorem few_sm {cap f : Nat} (h : SmC cap f) : fewL cap f 64 = true := by
  rcases h with ⟨rfl, h⟩ | ⟨rfl, h⟩ | ⟨rfl, h⟩ | ⟨rfl, h⟩ | ⟨rfl, h⟩ | ⟨rfl, h⟩
  · exact few1 f h
  · exact few2 f h
  · exact few3 f h
  · exact few9 f h
  · exact few5 f h
  · exact few4 f h
theorem sum_le_of {cap : Nat} : ∀ {l : List Int}, (∀ x ∈ l, 0 ≤ x ∧ x ≤ (cap : Int)) → 0 ≤ l.sum ∧ l.sum ≤ ((cap * l.length : Nat) : Int)
  | [], _ => by simp
  | x :: l, h => by
    have h1 := h x List.mem_cons_self
    have h2 := sum_le_of fun y hy => h y (List.mem_cons_of_mem _ hy)
    rw [List.sum_cons, List.length_cons, Nat.mul_succ]
    omega
theorem flt_le {α : Type} {p q : α → Bool} (h : ∀ a, p a = true → q a = true) : ∀ {l : List α}, (l.filter p).length ≤ (l.filter q).length
  | [] => Nat.le_refl _
  | x :: l => by
    have ih := flt_le h (l := l)
    rw [List.filter_cons, List.filter_cons]
    cases hp : p x with
    | true => rw [h x hp]; simp; exact ih
    | false =>
      cases q x with
      | true => simp; omega
      | false => simp; exact ih
theorem VL_few {P cap f : Nat} {cs : List Int} (h : SmC cap f) : (VL P cap f cs).length < 64 := by
  have hf := few_sm h
  by_cases hv : VL P cap f cs = []
  · rw [hv]; decide
  · obtain ⟨lot, hlot⟩ := List.exists_mem_of_ne_nil _ hv
    obtain ⟨m1, m2⟩ := List.mem_filter.mp hlot
    obtain ⟨hl, hb⟩ := mem_lots.mp m1
    have hs := sum_le_of hb
    rw [hl] at hs
    have he : lot.sum = gI cs 0 := by
      unfold okV at m2
      rw [Bool.and_eq_true, decide_eq_true_eq] at m2
      exact m2.2
    rw [he] at hs
    unfold fewL at hf
    have := List.all_eq_true.mp hf (gI cs 0).toNat (List.mem_range.mpr (by omega))
    rw [decide_eq_true_eq] at this
    refine Nat.lt_of_le_of_lt ?_ this
    exact flt_le fun l hl => by
      unfold okV at hl
      rw [Bool.and_eq_true, decide_eq_true_eq] at hl
      rw [decide_eq_true_eq, hl.2]
      omega
end X
namespace X
open PySem PySem.Spec L2 DL DM
section
variable {P cap f : Nat} {cs : List Int}
theorem fm_bar : (if sumHi (SPL (cap : Int) f (gI cs) P) < gI cs 0 then PyData.tuple [.str "many", .int (sumHi (SPL (cap : Int) f (gI cs) P))] else .tuple [.str "few", .int (sumLo (SPL (cap : Int) f (gI cs) P))]) = fmD P cap f cs := by
  rw [sumHi_SPL, sumLo_SPL]; rfl
theorem bar_head (h : Ask P cap f cs) : (barsL P cap f cs ++ [PyData.none])[0]? = some (barD P cap f cs) := by
  unfold barsL barD
  by_cases hf : 0 < fitV P cap f (gI cs)
  · have hv := (VL_pos h).mp hf
    have ok := (fitV_pos.mp hf).1
    have ht := (tbL_nil h.f1 h.fP).mpr ok
    rw [if_pos hf, if_neg (fun w => hv w.2), ht]
    rfl
  · have hv : VL P cap f cs = [] := Classical.byContradiction fun w => hf ((VL_pos h).mpr w)
    rw [if_neg hf]
    cases ht : tbL P cap f cs P with
    | nil =>
      rw [if_pos (show ([] : List (Nat × Nat)) = [] ∧ VL P cap f cs = [] from ⟨rfl, hv⟩)]
      show some (fmD P cap f cs) = some _
      rw [← fm_bar]
    | cons p r =>
      rw [if_neg (show ¬ (p :: r = [] ∧ VL P cap f cs = []) from fun w => by cases w.1)]
      rfl
end
end X
namespace X
open PySem PySem.Spec L2 DL DM
/-- where the next place of a lot begins -/
def loP (l : List Int) : Int := (l.getLast?.map (· + 1)).getD 0
/-- the rising lots of k places, in order -/
def nxP (P : Nat) (l : List Int) : List (List Int) := ((List.range ((P : Int) - loP l).toNat).map fun (i : Nat) => l ++ [loP l + (i : Int)])
def lotsP (P : Nat) : Nat → List (List Int)
  | 0 => [[]]
  | k + 1 => (lotsP P k).flatMap (nxP P)
theorem loP_snoc {l : List Int} {x : Int} : loP (l ++ [x]) = x + 1 := by unfold loP; simp
theorem loP_nil : loP [] = 0 := rfl
theorem mem_nxP {P : Nat} {l m : List Int} : m ∈ nxP P l ↔ ∃ x : Int, m = l ++ [x] ∧ loP l ≤ x ∧ x < P := by
  unfold nxP
  rw [List.mem_map]
  constructor
  · rintro ⟨i, hi, rfl⟩
    have := List.mem_range.mp hi
    exact ⟨_, rfl, by omega, by omega⟩
  · rintro ⟨x, rfl, h1, h2⟩
    refine ⟨(x - loP l).toNat, List.mem_range.mpr (by omega), ?_⟩
    show l ++ [loP l + (((x - loP l).toNat : Nat) : Int)] = l ++ [x]
    rw [show loP l + (((x - loP l).toNat : Nat) : Int) = x by omega]
theorem lotsP_len {P : Nat} : ∀ {k : Nat} {l : List Int}, l ∈ lotsP P k → l.length = k
  | 0, l, h => by
    have : l = [] := by simpa [lotsP] using h
    rw [this]; rfl
  | k + 1, l, h => by
    obtain ⟨m, hm, hl⟩ := List.mem_flatMap.mp h
    obtain ⟨x, rfl, _⟩ := mem_nxP.mp hl
    rw [List.length_append, lotsP_len hm]; rfl
theorem lotsP_sorted {P : Nat} : ∀ k : Nat, (lotsP P k).Pairwise fun a b => lexGt b a = true
  | 0 => List.pairwise_singleton _ _
  | k + 1 => by
    refine pw_flat (fun l hl => ?_) ?_
    · unfold nxP
      rw [List.pairwise_map]
      refine List.Pairwise.imp (fun {i j} h => ?_) List.pairwise_lt_range
      exact lexGt_same (by omega)
    · refine List.Pairwise.imp_of_mem (fun {a b} ha hb h x hx y hy => ?_) (lotsP_sorted k)
      obtain ⟨u, rfl, _⟩ := mem_nxP.mp hx
      obtain ⟨w, rfl, _⟩ := mem_nxP.mp hy
      exact lexGt_app (by rw [lotsP_len ha, lotsP_len hb]) h
end X
namespace X
open PySem PySem.Spec L2 DL DM
/-- rising, within the places -/
def RiseP (P : Nat) (l : List Int) : Prop := l.Pairwise (· < ·) ∧ ∀ x ∈ l, 0 ≤ x ∧ x < (P : Int)
theorem loP_le {P : Nat} {l : List Int} (h : RiseP P l) {x : Int} (hx : ∀ y ∈ l, y < x) (h0 : 0 ≤ x) : loP l ≤ x := by
  refine (rev_ind (P := fun l => (∀ y ∈ l, y < x) → loP l ≤ x) (fun _ => h0) (fun l y _ hy => ?_) l) hx
  rw [loP_snoc]
  have := hy y (List.mem_append_right _ List.mem_cons_self)
  omega
theorem rise_mem {P : Nat} (l : List Int) : RiseP P l → l ∈ lotsP P l.length := by
  refine rev_ind (P := fun l => RiseP P l → l ∈ lotsP P l.length) (fun _ => List.mem_cons_self) (fun l x ih h => ?_) l
  obtain ⟨h1, h2⟩ := h
  rw [List.pairwise_append] at h1
  have hl : RiseP P l := ⟨h1.1, fun y hy => h2 y (List.mem_append_left _ hy)⟩
  have hx := h2 x (List.mem_append_right _ List.mem_cons_self)
  rw [List.length_append, List.length_singleton]
  exact List.mem_flatMap.mpr ⟨l, ih hl, mem_nxP.mpr ⟨x, rfl, loP_le hl (fun y hy => h1.2.2 y hy x List.mem_cons_self) hx.1, hx.2⟩⟩
theorem mem_rise {P : Nat} : ∀ {k : Nat} {l : List Int}, l ∈ lotsP P k → RiseP P l ∧ 0 ≤ loP l ∧ ∀ y ∈ l, y < loP l
  | 0, l, h => by
    have : l = [] := by simpa [lotsP] using h
    subst this
    exact ⟨⟨.nil, fun x h => by cases h⟩, by decide, fun x h => by cases h⟩
  | k + 1, l, h => by
    obtain ⟨m, hm, hl⟩ := List.mem_flatMap.mp h
    obtain ⟨x, rfl, h1, h2⟩ := mem_nxP.mp hl
    obtain ⟨⟨r1, r2⟩, r3, r4⟩ := mem_rise hm
    rw [loP_snoc]
    refine ⟨⟨List.pairwise_append.mpr ⟨r1, List.pairwise_singleton _ _, fun a ha b hb => ?_⟩, fun y hy => ?_⟩, by omega, fun y hy => ?_⟩
    · have := r4 a ha
      rw [List.mem_singleton] at hb
      omega
    · rcases List.mem_append.mp hy with w | w
      · exact r2 y w
      · rw [List.mem_singleton] at w; omega
    · rcases List.mem_append.mp hy with w | w
      · have := r4 y w; omega
      · rw [List.mem_singleton] at w; omega
end X
namespace X
open PySem PySem.Spec L2 DL DM
section
variable {P cap f : Nat} {cs : List Int}
/-- the threads that some place looks at -/
def lkd (P cap f : Nat) (cs : List Int) (xs : List Nat) : List Nat := (opL P cap f cs).filter fun t => xs.any fun x => decide (x % f = t)
theorem flt_split {α : Type} {p : α → Bool} : ∀ {l : List α}, (l.filter p).length + (l.filter fun x => !p x).length = l.length
  | [] => rfl
  | x :: l => by
    have ih := flt_split (p := p) (l := l)
    rw [List.filter_cons, List.filter_cons]
    cases p x <;> simp <;> omega
theorem lkd_split {xs : List Nat} : (lkd P cap f cs xs).length + (unl P cap f cs xs).length = (opL P cap f cs).length := flt_split
theorem lkd_le {xs : List Nat} : (lkd P cap f cs xs).length ≤ xs.length := by
  have h := len_inj (g := id) (l := lkd P cap f cs xs) (m := xs.map (· % f)) ((List.Pairwise.imp (fun h e => by omega) opL_lt).sublist List.filter_sublist) (fun t ht => by
    obtain ⟨x, hx, e⟩ := List.any_eq_true.mp (List.mem_filter.mp ht).2
    exact List.mem_map.mpr ⟨x, hx, of_decide_eq_true e⟩) fun x _ y _ e => e
  rwa [List.length_map] at h
/-- less places leave two threads or more -/
theorem few_no {xs : List Nat} (h : xs.length + 1 < (opL P cap f cs).length) : ¬ (unl P cap f cs xs).length < 2 := by
  have h1 := lkd_split (P := P) (cap := cap) (f := f) (cs := cs) (xs := xs)
  have h2 := lkd_le (P := P) (cap := cap) (f := f) (cs := cs) (xs := xs)
  omega
theorem opL_get_lt {i j : Nat} (hi : i < (opL P cap f cs).length) (hj : j < (opL P cap f cs).length) (h : i < j) : (opL P cap f cs)[i] < (opL P cap f cs)[j] := List.pairwise_iff_getElem.mp opL_lt i j hi hj h
/-- the least places, one by one -/
theorem first_le {xs : List Nat} (hx : xs.Pairwise (· < ·)) (hl : xs.length + 1 = (opL P cap f cs).length) (h : (unl P cap f cs xs).length < 2) {i : Nat} (hi : i < xs.length) : (opL P cap f cs)[i]'(by omega) ≤ xs[i] := by
  refine Nat.le_of_not_lt fun hn => ?_
  have h1 := lkd_split (P := P) (cap := cap) (f := f) (cs := cs) (xs := xs)
  have h3 := len_inj (g := id) (l := lkd P cap f cs xs) (m := (opL P cap f cs).take i ++ (xs.drop (i + 1)).map (· % f)) ((List.Pairwise.imp (fun h e => by omega) opL_lt).sublist List.filter_sublist) (fun t ht => by
    obtain ⟨ht1, ht2⟩ := List.mem_filter.mp ht
    obtain ⟨x, hx1, e⟩ := List.any_eq_true.mp ht2
    have e : x % f = t := of_decide_eq_true e
    obtain ⟨j, hj, rfl⟩ := List.getElem_of_mem hx1
    show t ∈ _
    by_cases hji : j ≤ i
    · refine List.mem_append_left _ ?_
      obtain ⟨k, hk, rfl⟩ := List.getElem_of_mem ht1
      have hle : xs[j] ≤ xs[i] := by
        by_cases q : j = i
        · subst q; exact Nat.le_refl _
        · exact Nat.le_of_lt (List.pairwise_iff_getElem.mp hx j i hj hi (by omega))
      have hm := Nat.mod_le xs[j] f
      have hki : k < i := Nat.lt_of_not_le fun q => by
        by_cases q2 : i = k
        · subst q2; omega
        · have := opL_get_lt (P := P) (cap := cap) (f := f) (cs := cs) (i := i) (j := k) (by omega) hk (by omega)
          omega
      exact List.mem_take_iff_getElem.mpr ⟨k, by omega, rfl⟩
    · refine List.mem_append_right _ (List.mem_map.mpr ⟨xs[j], ?_, e⟩)
      exact List.mem_drop_iff_getElem.mpr ⟨j - (i + 1), by omega, by congr 1; omega⟩) fun x _ y _ e => e
  rw [List.length_append, List.length_take, List.length_map, List.length_drop] at h3
  omega
/-- lots that are looks -/
def goodL (P cap f : Nat) (cs l : List Int) : Bool := decide ((unl P cap f cs (l.map Int.toNat)).length < 2)
theorem toNat_nL {xs : List Nat} : (nL xs).map Int.toNat = xs := by
  unfold nL
  rw [List.map_map]
  exact (List.map_congr_left fun x _ => by show ((x : Int)).toNat = x; omega).trans (List.map_id xs)
theorem nL_len {xs : List Nat} : (nL xs).length = xs.length := by unfold nL; rw [List.length_map]
theorem nL_toNat {l : List Int} (h : ∀ x ∈ l, 0 ≤ x) : nL (l.map Int.toNat) = l := by
  unfold nL
  rw [List.map_map]
  exact (List.map_congr_left fun x hx => by have := h x hx; show ((x.toNat : Nat) : Int) = x; omega).trans (List.map_id l)
theorem tonat_rise {l : List Int} (h : RiseP P l) : (l.map Int.toNat).Pairwise (· < ·) := by
  rw [List.pairwise_map]
  exact List.Pairwise.imp_of_mem (fun {a b} ha hb hab => by have := h.2 a ha; have := h.2 b hb; omega) h.1
theorem gI_nL {xs : List Nat} {i : Nat} (h : i < xs.length) : gI (nL xs) i = ((xs[i] : Nat) : Int) := by
  unfold gI nL
  simp [List.getD, h]
theorem few_lots {k : Nat} (h : k + 1 < (opL P cap f cs).length) : ∀ l ∈ lotsP P k, goodL P cap f cs l = false := fun l hl => by
  refine decide_eq_false (few_no ?_)
  rw [List.length_map, lotsP_len hl]
  exact h
theorem opL_rise (hP : f ≤ P) : RiseP P (nL (opL P cap f cs).dropLast) := by
  refine ⟨?_, fun x hx => ?_⟩
  · unfold nL
    rw [List.pairwise_map]
    exact List.Pairwise.imp (fun h => by omega) (opL_lt.sublist (List.dropLast_sublist _))
  · obtain ⟨t, ht, rfl⟩ := List.mem_map.mp hx
    have := opL_bd (List.dropLast_subset _ ht)
    omega
theorem first_good (hP : f ≤ P) : ((lotsP P ((opL P cap f cs).length - 1)).filter (goodL P cap f cs)).head? = some (nL (opL P cap f cs).dropLast) := by
  have hl : (nL (opL P cap f cs).dropLast).length = (opL P cap f cs).length - 1 := by rw [nL_len, List.length_dropLast]
  refine head_least (lotsP_sorted _) (by rw [← hl]; exact rise_mem _ (opL_rise hP)) ?_ fun m hm hg => ?_
  · unfold goodL
    rw [toNat_nL]
    exact decide_eq_true unl_looks
  · obtain ⟨hr, _⟩ := mem_rise hm
    have hml := lotsP_len hm
    refine lexGt_false (by rw [hl, hml]) fun i hi _ => ?_
    rw [hl] at hi
    rw [gI_nL (by rw [List.length_dropLast]; exact hi), List.getElem_dropLast]
    have hi2 : i < (m.map Int.toNat).length := by rw [List.length_map]; omega
    have h1 := first_le (tonat_rise hr) (by rw [List.length_map]; omega) (of_decide_eq_true hg) hi2
    rw [List.getElem_map] at h1
    have h2 := hr.2 m[i] (List.getElem_mem _)
    have h3 : gI m i = m[i]'(by omega) := by
      unfold gI
      simp [List.getD, show i < m.length by omega]
    rw [h3]
    omega
theorem lotsP_count : ∀ k : Nat, (lotsP P k).length ≤ P ^ k
  | 0 => Nat.le_refl _
  | k + 1 => by
    have e : ∀ L : List (List Int), (∀ l ∈ L, 0 ≤ loP l) → (L.flatMap (nxP P)).length ≤ L.length * P := fun L hL => by
      induction L with
      | nil => simp
      | cons l L ih =>
        have h0 := hL l List.mem_cons_self
        have := ih fun x hx => hL x (List.mem_cons_of_mem _ hx)
        rw [List.flatMap_cons, List.length_append, List.length_cons, Nat.add_mul]
        have h1 : (nxP P l).length ≤ P := by unfold nxP; rw [List.length_map, List.length_range]; omega
        omega
    have h1 := e (lotsP P k) fun l hl => (mem_rise hl).2.1
    have h2 := lotsP_count k
    exact Nat.le_trans h1 (by rw [Nat.pow_succ]; exact Nat.mul_le_mul_right P h2)
end
end X
namespace X
open PySem PySem.Spec L2 DL DM
theorem forS_find {tg : D → Rho → Option Rho} {body : SS} {ρ ρd : Rho} {c : Dr} {p : D → Bool} {d : D} : ∀ {xs : List D}, (xs.filter p).head? = some d → (∀ x ∈ xs, p x = false → ∃ ρ1, tg x ρ = some ρ1 ∧ body ρ1 c = some (.nx, ρ, c)) → (∃ ρ1, tg d ρ = some ρ1 ∧ body ρ1 c = some (.rt d, ρd, c)) → forS tg body xs ρ c = some (.rt d, ρd, c)
  | [], h, _, _ => by simp at h
  | x :: xs, h, h1, h2 => by
    by_cases hp : p x = true
    · rw [List.filter_cons_of_pos hp] at h
      have h : some x = some d := h
      have h : x = d := by injection h
      rw [h]
      obtain ⟨ρ1, e1, e2⟩ := h2
      show ((tg d ρ).bind fun ρ1 => _) = _
      rw [e1]
      show ((body ρ1 c).bind fun r => _) = _
      rw [e2]; rfl
    · rw [List.filter_cons_of_neg hp] at h
      obtain ⟨ρ1, e1, e2⟩ := h1 x List.mem_cons_self (by simpa using hp)
      show ((tg x ρ).bind fun ρ1 => _) = _
      rw [e1]
      show ((body ρ1 c).bind fun r => _) = _
      rw [e2]
      exact forS_find h (fun y hy => h1 y (List.mem_cons_of_mem _ hy)) h2
section
variable {P cap f : Nat} {cs : List Int}
theorem zip_rise : ∀ {xs : List Nat}, xs.Pairwise (· < ·) → (zipL (iL (nL xs)) ((iL (nL xs)).drop 1)).all ltB = true
  | [], _ => rfl
  | [x], _ => rfl
  | x :: y :: xs, h => by
    rw [List.pairwise_cons] at h
    have ih := zip_rise h.2
    show (decide ((x : Int) < y) && (zipL (iL (nL (y :: xs))) ((iL (nL (y :: xs))).drop 1)).all ltB) = true
    rw [ih, Bool.and_true, decide_eq_true_eq]
    have := h.1 y List.mem_cons_self
    omega
theorem lookOk_rise {l : List Int} (h : RiseP P l) : lookOk P (.tuple (iL l)) = true := by
  have e := nL_toNat fun x hx => (h.2 x hx).1
  show ((iL l).all (btw 0 ((P : Int) - 1)) && (zipL (iL l) ((iL l).drop 1)).all ltB) = true
  rw [Bool.and_eq_true]
  refine ⟨List.all_eq_true.mpr fun d hd => ?_, ?_⟩
  · obtain ⟨x, hx, rfl⟩ := List.mem_map.mp hd
    have := h.2 x hx
    show (decide (0 ≤ x) && decide (x ≤ (P : Int) - 1)) = true
    rw [decide_eq_true this.1, decide_eq_true (by omega)]; rfl
  · rw [← e]
    exact zip_rise (tonat_rise h)
theorem lot_looks (h : Ask P cap f cs) (hp : 0 < fitV P cap f (gI cs)) (h64 : (VL P cap f cs).length < 64) {l : List Int} (hr : RiseP P l) (hl : l.length ≤ 1000) : F_l_are_looks [.int P, .list ((VL P cap f cs).map (rwD P f cs)), .tuple (iL l)] = some (.bool (goodL P cap f cs l)) := by
  rw [F_l_are_looks_any h h64 (fun xs e => by cases e; rw [iL_len]; exact hl), lookOk_rise hr, Bool.true_and, if_pos hp]
  show some (PyData.bool (decide ((unl P cap f cs ((iL l).map fun y => match y with | .int i => i.toNat | _ => 0)).length < 2))) = _
  unfold goodL
  have e : ((iL l).map fun y => match y with | .int i => i.toNat | _ => 0) = l.map Int.toNat := by
    unfold iL
    rw [List.map_map]
    exact List.map_congr_left fun x _ => rfl
  rw [e]
/-- the law's own search, from lots of k places on -/
abbrev fewW : SS := sThen [4] (sSeq (sFor (sItL (sV 2)) (qN 3)
 (sThen [3] (sIfS (sB (sCall F_l_are_looks (sCons (sV 0) (sCons (sV 1) (sCons (sV 3) sNil)))))
 (sRet (sV 3))
 sNext)))
 (sSeq (sAsg (sLst sNil) (qN 4))
 (sSeq (sFor (sItL (sV 2)) (qN 3)
 (sThen [3] (sAsg (sOp addD (sV 4) (sOfL (sLc (sR2 (sCons (sIfE (sB (sOp neD (sV 3) (sTup sNil))) (sOp addD (sOp ixD (sV 3) (sUn negD (sC (.int 1)))) (sC (.int 1))) (sC (.int 0))) (sCons (sV 0) sNil))) (qN 5) sYes (sOp addD (sV 3) (sTup (sCons (sV 5) sNil))) [5]))) (qN 4))))
 (sAsg (sV 4) (qN 2)))))
def stW (P : Nat) (rows : D) (k : Nat) : Rho := [.im (.int P), .im rows, .im (.list ((lotsP P k).map ltD')), .un, .un, .un]
def goodDD (P cap f : Nat) (cs : List Int) : D → Bool
  | .tuple xs => goodL P cap f cs (xs.map fun y => match y with | .int i => i | _ => 0)
  | _ => false
theorem goodD {l : List Int} : goodDD P cap f cs (ltD' l) = goodL P cap f cs l := by
  show goodL P cap f cs ((iL l).map fun y => match y with | .int i => i | _ => 0) = _
  congr 1
  unfold iL
  rw [List.map_map]
  exact (List.map_congr_left fun x _ => rfl).trans (List.map_id l)
theorem nextLot {l : List Int} {rows lots B : D} {Bs : List D} (hB : B = .list Bs) (hP : P ≤ 11) (hl : l.length ≤ 1000) (hr : RiseP P l) (h0 : 0 ≤ loP l) (hf : few (Bs.length + (nxP P l).length) = true) :
    sThen [3] (sAsg (sOp addD (sV 4) (sOfL (sLc (sR2 (sCons (sIfE (sB (sOp neD (sV 3) (sTup sNil))) (sOp addD (sOp ixD (sV 3) (sUn negD (sC (.int 1)))) (sC (.int 1))) (sC (.int 0))) (sCons (sV 0) sNil))) (qN 5) sYes (sOp addD (sV 3) (sTup (sCons (sV 5) sNil))) [5]))) (qN 4)) [.im (.int P), .im rows, .im lots, .im (ltD' l), .im B, .un] (0, 0) = some (.nx, [.im (.int P), .im rows, .im lots, .un, .im (.list (Bs ++ (nxP P l).map ltD')), .un], (0, 0)) := by
  subst hB
  have f0 : few 0 = true := by decide
  have f1 : few 1 = true := by decide
  refine then_run (ρ1 := [.im (.int P), .im rows, .im lots, .im (ltD' l), .im (.list (Bs ++ (nxP P l).map ltD')), .un]) ?_ rfl
  have e0 : sIfE (sB (sOp neD (sV 3) (sTup sNil))) (sOp addD (sOp ixD (sV 3) (sUn negD (sC (.int 1)))) (sC (.int 1))) (sC (.int 0)) [.im (.int P), .im rows, .im lots, .im (ltD' l), .im (.list Bs), .un] (0, 0) = some (.int (loP l), (0, 0)) := by
    have en : neD (ltD' l) (.tuple []) = some (.bool (!decide (l = []))) := neD_b (n := 1) pln_tup (Pln.tuple fun d hd => by cases hd) (by decide) (by
      rw [decide_eq_true_eq]
      constructor
      · rintro rfl; rfl
      · intro e
        have e : iL l = [] := by injection e
        exact List.map_eq_nil_iff.mp e)
    by_cases hn : l = []
    · subst hn
      rw [decide_eq_true rfl] at en
      simp only [ev_sIfE, ev_sB, ev_sOp, ev_sV, ev_sTup, ev_sNil, ev_sC, List.getElem?_cons_succ, List.getElem?_cons_zero, Option.bind_some, List.length_nil, f0, if_true, en, Bool.not_true, Bool.false_eq_true, if_false]
      rfl
    · rw [decide_eq_false hn] at en
      have ea : ltD' l = .tuple (iL l.dropLast ++ [.int (l.getLast hn)]) := by
        unfold ltD'
        have := List.dropLast_concat_getLast hn
        conv => lhs; rw [← this]
        rw [iL_app]; rfl
      have ei : ixD (ltD' l) (.int (-1)) = some (.int (l.getLast hn)) := by rw [ea]; exact atI_last _ _
      have el : l.getLast hn + 1 = loP l := by
        have := List.dropLast_concat_getLast hn
        conv => rhs; rw [← this]
        rw [loP_snoc]
      simp only [ev_sIfE, ev_sB, ev_sOp, ev_sV, ev_sTup, ev_sNil, ev_sC, ev_sUn, ev_negI, List.getElem?_cons_succ, List.getElem?_cons_zero, Option.bind_some, List.length_nil, f0, if_true, en, Bool.not_false, ei, ev_addII, el]
  have hlo : loP l ≤ 11 := by
    refine loP_le (P := P) hr (fun y hy => ?_) (by omega)
    have := hr.2 y hy; omega
  have l1 := lcS_map (tg := qN 5) (e := sOp addD (sV 3) (sTup (sCons (sV 5) sNil))) (ρ0 := [.im (.int P), .im rows, .im lots, .im (ltD' l), .im (.list Bs), .un]) (xs := rngL (loP l) ((P : Int) - loP l).toNat) (c := (0, 0)) (fun d => match d with | .int k => .tuple (iL (l ++ [k])) | d => d) (fun x hx => by
    obtain ⟨s, hs, rfl⟩ := rng_mem hx
    refine ⟨_, rfl, ?_⟩
    have e1 : few (l.length + 1) = true := few_of (by omega)
    have e2 : iL l ++ [PyData.int (loP l + s)] = iL (l ++ [loP l + (s : Int)]) := by rw [iL_app]; rfl
    simp [ltD', f1, e1, e2])
  have ed : (rngL (loP l) ((P : Int) - loP l).toNat).map (fun d => match d with | .int k => PyData.tuple (iL (l ++ [k])) | d => d) = (nxP P l).map ltD' := by
    unfold rngL nxP
    rw [List.map_map, List.map_map]
    exact List.map_congr_left fun p _ => rfl
  rw [ed] at l1
  have o1 : okR (loP l) = true := okR_of (by omega) (by omega)
  have o2 : okR (P : Int) = true := okR_of (by omega) (by omega)
  have fr : few (rngL (loP l) ((P : Int) - loP l).toNat).length = true := few_of (by rw [rngL_len]; omega)
  have hf' : few (Bs.length + ((nxP P l).map ltD').length) = true := by rw [List.length_map]; exact hf
  unfold sAsg
  simp only [ev_sOp, ev_sV, ev_sOfL, ev_sLc, ev_sR2, ev_sCons, ev_sNil, e0, List.getElem?_cons_succ, List.getElem?_cons_zero, Option.bind_some, o1, o2, and_self, if_true, fr, ev_wipe0, ev_wipe1, List.set_cons_succ, List.set_cons_zero, l1, ev_addLL, hf', ev_qN]
theorem few_turn (h : Ask P cap f cs) (hP : P ≤ 11) (hp : 0 < fitV P cap f (gI cs)) (h64 : (VL P cap f cs).length < 64) {k : Nat} (hk : k + 1 < (opL P cap f cs).length) (hk4 : k ≤ 4) : fewW (stW P (.list ((VL P cap f cs).map (rwD P f cs))) k) (0, 0) = some (.nx, stW P (.list ((VL P cap f cs).map (rwD P f cs))) (k + 1), (0, 0)) := by
  have f0 : few 0 = true := by decide
  have hlt := few_lots (P := P) hk
  generalize hrw : PyData.list ((VL P cap f cs).map (rwD P f cs)) = rows
  refine then_run (ρ1 := [.im (.int P), .im rows, .im (.list ((lotsP P (k + 1)).map ltD')), .un, .im (.list ((lotsP P (k + 1)).map ltD')), .un]) ?_ rfl
  refine seq_run (for_run (c1 := (0, 0)) (xs := (lotsP P k).map ltD') (st := fun _ => stW P rows k) rfl rfl fun j y hy => ?_) ?_
  · rw [List.getElem?_map] at hy
    obtain ⟨l, hl, rfl⟩ := Option.map_eq_some_iff.mp hy
    have hl := List.mem_of_getElem? hl
    have el := lot_looks h hp h64 (mem_rise hl).1 (by rw [lotsP_len hl]; omega)
    rw [hlt l hl, hrw] at el
    have el : F_l_are_looks [.int P, rows, ltD' l] = some (.bool false) := el
    refine ⟨[.im (.int P), .im rows, .im (.list ((lotsP P k).map ltD')), .im (ltD' l), .un, .un], rfl, then_run (ρ1 := [.im (.int P), .im rows, .im (.list ((lotsP P k).map ltD')), .im (ltD' l), .un, .un]) (DL.ifF (c1 := (0, 0)) ?_ rfl) rfl⟩
    simp only [ev_sB, ev_sCall, ev_sCons, ev_sNil, ev_sV, List.getElem?_cons_succ, List.getElem?_cons_zero, Option.bind_some, el]
  · refine seq_run (ρ1 := [.im (.int P), .im rows, .im (.list ((lotsP P k).map ltD')), .un, .im (.list ((((lotsP P k).take 0).flatMap (nxP P)).map ltD')), .un]) (c1 := (0, 0)) ?_ ?_
    · simp only [stW, ev_sAsg, ev_sLst, ev_sNil, Option.bind_some, List.length_nil, f0, if_true, ev_qN, List.set_cons_succ, List.set_cons_zero, List.take_zero, List.flatMap_nil, List.map_nil]
    refine seq_run (for_run (c1 := (0, 0)) (xs := (lotsP P k).map ltD') (st := fun j => [.im (.int P), .im rows, .im (.list ((lotsP P k).map ltD')), .un, .im (.list ((((lotsP P k).take j).flatMap (nxP P)).map ltD')), .un]) rfl rfl fun j y hy => ?_) ?_
    · rw [List.getElem?_map] at hy
      obtain ⟨l, hl, rfl⟩ := Option.map_eq_some_iff.mp hy
      have hm := List.mem_of_getElem? hl
      obtain ⟨m1, m2, m3⟩ := mem_rise hm
      refine ⟨_, rfl, ?_⟩
      rw [take_succ_get hl, List.flatMap_append, List.map_append, show [l].flatMap (nxP P) = nxP P l by simp]
      refine nextLot rfl hP (by rw [lotsP_len hm]; omega) m1 m2 (few_of ?_)
      rw [List.length_map]
      have h1 : (((lotsP P k).take j).flatMap (nxP P)).length + (nxP P l).length ≤ (lotsP P (k + 1)).length := by
        have e : (lotsP P k).take (j + 1) = (lotsP P k).take j ++ [l] := take_succ_get hl
        have e2 : lotsP P (k + 1) = ((lotsP P k).take (j + 1) ++ (lotsP P k).drop (j + 1)).flatMap (nxP P) := by rw [List.take_append_drop]; rfl
        rw [e2, e, List.flatMap_append, List.flatMap_append, List.length_append, List.length_append, show [l].flatMap (nxP P) = nxP P l by simp]
        omega
      have h2 := lotsP_count (P := P) (k + 1)
      have h3 : P ^ (k + 1) ≤ 11 ^ 5 := Nat.le_trans (Nat.pow_le_pow_left hP _) (Nat.pow_le_pow_right (by decide) (by omega))
      have h4 : (11 : Nat) ^ 5 = 161051 := by decide
      omega
    · rw [List.length_map, List.take_length]
      rfl
theorem few_last (h : Ask P cap f cs) (hp : 0 < fitV P cap f (gI cs)) (h64 : (VL P cap f cs).length < 64) : ∃ ρ, fewW (stW P (.list ((VL P cap f cs).map (rwD P f cs))) ((opL P cap f cs).length - 1)) (0, 0) = some (.rt (.tuple (iL (nL (opL P cap f cs).dropLast))), ρ, (0, 0)) := by
  have hfg := first_good (P := P) (cap := cap) (f := f) (cs := cs) h.fP
  have hol := opL_len (P := P) (cap := cap) (f := f) (cs := cs)
  have hf24 : f ≤ 24 := Nat.le_trans h.fP h.P24
  generalize (opL P cap f cs).length - 1 = k at hfg hol
  generalize hrw : PyData.list ((VL P cap f cs).map (rwD P f cs)) = rows
  have hg : ∀ l ∈ lotsP P k, F_l_are_looks [.int P, rows, ltD' l] = some (.bool (goodL P cap f cs l)) := fun l hl => by
    have hl1 : l.length ≤ 1000 := by
      have := (mem_rise hl).1
      have h2 := lotsP_len hl
      have h3 : l.length ≤ P := by
        have hn : (l.map Int.toNat).Nodup := List.Pairwise.imp (fun h e => by omega) (tonat_rise this)
        have := len_inj (g := id) (l := l.map Int.toNat) (m := List.range P) hn (fun x hx => by
          obtain ⟨y, hy, rfl⟩ := List.mem_map.mp hx
          have := this.2 y hy
          exact List.mem_range.mpr (by show y.toNat < P; omega)) fun x _ y _ e => e
        rwa [List.length_map, List.length_range] at this
      have := h.P24
      omega
    have := lot_looks h hp h64 (mem_rise hl).1 hl1
    rw [hrw] at this
    exact this
  refine ⟨[.im (.int P), .im rows, .im (.list ((lotsP P k).map ltD')), .im (ltD' (nL (opL P cap f cs).dropLast)), .un, .un], then_rt (seq_rt ?_)⟩
  show forS (qN 3) _ ((lotsP P k).map ltD') _ _ = _
  refine forS_find (p := goodDD P cap f cs) (d := ltD' (nL (opL P cap f cs).dropLast)) ?_ (fun y hy hn => ?_) ?_
  · have e : ∀ L : List (List Int), (L.map ltD').filter (goodDD P cap f cs) = (L.filter (goodL P cap f cs)).map ltD' := fun L => by
      rw [List.filter_map]
      congr 1
      exact List.filter_congr fun l _ => goodD
    rw [e, List.head?_map, hfg]
    rfl
  · obtain ⟨l, hl, rfl⟩ := List.mem_map.mp hy
    rw [goodD] at hn
    have el := hg l hl
    rw [hn] at el
    refine ⟨[.im (.int P), .im rows, .im (.list ((lotsP P k).map ltD')), .im (ltD' l), .un, .un], rfl, then_run (ρ1 := [.im (.int P), .im rows, .im (.list ((lotsP P k).map ltD')), .im (ltD' l), .un, .un]) (DL.ifF (c1 := (0, 0)) ?_ rfl) rfl⟩
    simp only [ev_sB, ev_sCall, ev_sCons, ev_sNil, ev_sV, List.getElem?_cons_succ, List.getElem?_cons_zero, Option.bind_some, el]
  · have hm : nL (opL P cap f cs).dropLast ∈ (lotsP P k).filter (goodL P cap f cs) := List.mem_of_mem_head? hfg
    obtain ⟨m1, m2⟩ := List.mem_filter.mp hm
    have el := hg _ m1
    rw [m2] at el
    refine ⟨_, rfl, then_rt (DL.ifT (c1 := (0, 0)) ?_ (ret_run ?_))⟩
    · simp only [stW, List.set_cons_succ, List.set_cons_zero, ev_sB, ev_sCall, ev_sCons, ev_sNil, ev_sV, List.getElem?_cons_succ, List.getElem?_cons_zero, Option.bind_some, el]
    · simp only [stW, List.set_cons_succ, List.set_cons_zero, ev_sV, List.getElem?_cons_succ, List.getElem?_cons_zero]
theorem few_while (h : Ask P cap f cs) (hP : P ≤ 11) (hf5 : f ≤ 5) (hp : 0 < fitV P cap f (gI cs)) (h64 : (VL P cap f cs).length < 64) : ∀ j k n, k + j = (opL P cap f cs).length - 1 → j < n → ∃ ρ, whileS (sTr (sC (.bool true))) fewW n (stW P (.list ((VL P cap f cs).map (rwD P f cs))) k) (0, 0) = some (.rt (.tuple (iL (nL (opL P cap f cs).dropLast))), ρ, (0, 0))
  | 0, k, 0, _, hn => absurd hn (by omega)
  | j + 1, k, 0, _, hn => absurd hn (by omega)
  | 0, k, n + 1, hk, _ => by
    obtain ⟨ρ, e⟩ := few_last h hp h64
    rw [← hk, Nat.add_zero] at e
    refine ⟨ρ, ?_⟩
    show ((fewW (stW P (.list ((VL P cap f cs).map (rwD P f cs))) k) (0, 0)).bind fun r => _) = _
    rw [e]; rfl
  | j + 1, k, n + 1, hk, hn => by
    have hol := opL_len (P := P) (cap := cap) (f := f) (cs := cs)
    have e := few_turn h hP hp h64 (k := k) (by omega) (by omega)
    obtain ⟨ρ, e2⟩ := few_while h hP hf5 hp h64 j (k + 1) n (by omega) (by omega)
    refine ⟨ρ, ?_⟩
    show ((fewW (stW P (.list ((VL P cap f cs).map (rwD P f cs))) k) (0, 0)).bind fun r => _) = _
    rw [e]
    exact e2
theorem F_l_fewest_eq (h : Ask P cap f cs) (hP : P ≤ 11) (hf5 : f ≤ 5) (hp : 0 < fitV P cap f (gI cs)) (h64 : (VL P cap f cs).length < 64) : F_l_fewest [.int P, .list ((VL P cap f cs).map (rwD P f cs))] = some (.tuple (iL (nL (opL P cap f cs).dropLast))) := by
  have hol := opL_len (P := P) (cap := cap) (f := f) (cs := cs)
  obtain ⟨ρ, e⟩ := few_while h hP hf5 hp h64 ((opL P cap f cs).length - 1) 0 30 (by omega) (by omega)
  refine bodyP_of rfl ?_
  unfold S_l_fewest
  refine .seq (ρ1 := stW P (.list ((VL P cap f cs).map (rwD P f cs))) 0) (c1 := (0, 0)) ?_ ⟨_, e, rfl⟩
  have f0 : few 0 = true := by decide
  have f1 : few 1 = true := by decide
  simp [f0, f1, stW]
  rfl
end
end X
namespace X
open PySem PySem.Spec L2 DL DM
theorem F_l_truly_eq {a b : Bool} : F_l_truly [.bool a, .bool b] = some (.bool (a == b)) := by
  refine bodyP_of rfl ?_
  unfold S_l_truly
  have e1 : isB .bool (.bool a) = true := rfl
  have e2 : eqD (.bool a) (.bool b) = some (.bool (a == b)) := eqD_bool
  exact .ret (c1 := (0, 0)) (by simp [e1, e2]) rfl
section
variable {v : V} {k : Int} {P cap f : Nat} {cs : List Int} {c : Dr} {th : D}
theorem bars_pln (h : Ask P cap f cs) : ∀ z ∈ barsL P cap f cs, Pln 1 z := fun z hz => by
  unfold barsL at hz
  split at hz
  · rw [List.mem_singleton] at hz
    subst hz
    have := pln_bar (P := P) (cap := cap) (f := f) (cs := cs)
    unfold fmD
    split
    · refine .tuple fun d hd => ?_
      simp only [List.mem_cons, List.not_mem_nil, or_false] at hd
      rcases hd with rfl | rfl
      · exact pln_many
      · exact pln_int
    · refine .tuple fun d hd => ?_
      simp only [List.mem_cons, List.not_mem_nil, or_false] at hd
      rcases hd with rfl | rfl
      · exact pln_few
      · exact pln_int
  · exact pln_tbs z hz
theorem bool_ones {ys : List D} : eqD (.list (ys.filterMap fun d => if isB .bool d = true then some (PyData.int 1) else none)) (.list []) = some (.bool (noB ys)) := eqD_b (n := 1) (.list fun d hd => by
    obtain ⟨x, _, e⟩ := List.mem_filterMap.mp hd
    split at e
    · cases e; exact pln_int
    · cases e) (.list fun d hd => by cases hd) (by decide) (by
  unfold noB
  rw [List.all_eq_true]
  constructor
  · intro h
    congr 1
    rw [List.filterMap_eq_nil_iff]
    intro x hx
    have := h x hx
    rw [Bool.not_eq_true'] at this
    rw [if_neg (by rw [this]; decide)]
  · intro e x hx
    injection e with e
    rw [List.filterMap_eq_nil_iff] at e
    have := e x hx
    by_cases w : isB .bool x = true
    · rw [if_pos w] at this; cases this
    · simpa using w)
theorem tup_of_bar (h : Ask P cap f cs) {x : D} (hx : ((barsL P cap f cs).any fun z => PyData.eqv z x) = true) : ∃ ys, x = .tuple ys := by
  obtain ⟨z, hz, he⟩ := List.any_eq_true.mp hx
  obtain ⟨s, is, rfl, _, _⟩ := bar_shape h hz
  cases x with
  | tuple ys => exact ⟨ys, rfl⟩
  | _ => simp [PyData.eqv] at he
abbrev chkS : SS := (sThen [15, 16] (sSeq (sAsg (sAndV (sOp inD (sV 15) (sV 8)) (sOp eqD (sOfL (sLc (sItT (sV 15)) (qN 18) (sB (sIsi .bool (sV 18))) (sC (.int 1)) [18])) (sLst sNil))) (qN 16))
 (sSeq (sIfS (sNot (sB (sCall F_l_truly (sCons (sCall F_is_bar (sCons (sV 3) (sCons (sV 4) (sCons (sV 5) (sCons (sV 6) (sCons (sV 15) sNil)))))) (sCons (sV 16) sNil)))))
 (sRet (sC (.bool false)))
 sNext)
 (sIfS (sNot (sB (sCall F_l_truly (sCons (sCall F_are_looks (sCons (sV 3) (sCons (sV 4) (sCons (sV 5) (sCons (sV 6) (sCons (sV 15) sNil)))))) (sCons (sCall F_l_are_looks (sCons (sV 3) (sCons (sV 7) (sCons (sV 15) sNil)))) sNil)))))
 (sRet (sC (.bool false)))
 sNext))))
theorem chk_run (h : Ask P cap f cs) (h64 : (VL P cap f cs).length < 64) {x ts : D} (hx : Gd 100 30 x) : chkS [.op v, .im (.int k), .dr, .im (.int P), .im (.int cap), .im (.int f), .im (.tuple (iL cs)), .im (.list ((VL P cap f cs).map (rwD P f cs))), .im (.list (barsL P cap f cs)), .im th, .im ts, .un, .un, .un, .un, .im x, .un, .un, .un] c = some (.nx, [.op v, .im (.int k), .dr, .im (.int P), .im (.int cap), .im (.int f), .im (.tuple (iL cs)), .im (.list ((VL P cap f cs).map (rwD P f cs))), .im (.list (barsL P cap f cs)), .im th, .im ts, .un, .un, .un, .un, .un, .un, .un, .un], c) := by
  have e1 := F_is_bar_any h hx (by decide) (by decide)
  rw [isbR_good h hx] at e1
  have hl : ∀ xs, x = .tuple xs → xs.length ≤ 1000 := fun xs e => by
    subst e
    have := hx.ofTuple.1
    omega
  have e2 := F_are_looks_any h hl
  have e3 := F_l_are_looks_any h h64 hl
  have ein : inD x (.list (barsL P cap f cs)) = some (.bool ((barsL P cap f cs).any fun z => PyData.eqv z x)) := by
    show (if SeqAt.shaped x = true ∧ SeqAt.shaped (.list (barsL P cap f cs)) = true then some (PyData.bool ((barsL P cap f cs).any fun z => PyData.eqv z x)) else none) = _
    rw [if_pos ⟨hx.shaped (by decide), (Pln.list (bars_pln h)).shaped (by decide)⟩]
  generalize hans : (lookOk P x && _) = ans at e2 e3
  refine then_run (ρ1 := [.op v, .im (.int k), .dr, .im (.int P), .im (.int cap), .im (.int f), .im (.tuple (iL cs)), .im (.list ((VL P cap f cs).map (rwD P f cs))), .im (.list (barsL P cap f cs)), .im th, .im ts, .un, .un, .un, .un, .im x, .im (.bool (goodB P cap f cs x)), .un, .un]) ?_ rfl
  refine seq_run (ρ1 := [.op v, .im (.int k), .dr, .im (.int P), .im (.int cap), .im (.int f), .im (.tuple (iL cs)), .im (.list ((VL P cap f cs).map (rwD P f cs))), .im (.list (barsL P cap f cs)), .im th, .im ts, .un, .un, .un, .un, .im x, .im (.bool (goodB P cap f cs x)), .un, .un]) (c1 := c) ?_ (seq_run (ρ1 := [.op v, .im (.int k), .dr, .im (.int P), .im (.int cap), .im (.int f), .im (.tuple (iL cs)), .im (.list ((VL P cap f cs).map (rwD P f cs))), .im (.list (barsL P cap f cs)), .im th, .im ts, .un, .un, .un, .un, .im x, .im (.bool (goodB P cap f cs x)), .un, .un]) (c1 := c) (DL.ifF (c1 := c) ?_ rfl) (DL.ifF (c1 := c) ?_ rfl))
  · cases hb : (barsL P cap f cs).any fun z => PyData.eqv z x with
    | false =>
      rw [hb] at ein
      have eg : goodB P cap f cs x = false := by unfold goodB; rw [hb]; rfl
      simp only [ev_sAsg, ev_sAndV, ev_sB, ev_sOp, ev_sV, List.getElem?_cons_succ, List.getElem?_cons_zero, Option.bind_some, ein, Bool.false_eq_true, if_false, ev_qN, List.set_cons_succ, List.set_cons_zero, eg]
    | true =>
      rw [hb] at ein
      obtain ⟨ys, rfl⟩ := tup_of_bar h hb
      have eg : goodB P cap f cs (.tuple ys) = noB ys := by unfold goodB; rw [hb]; exact Bool.true_and _
      have fy : few ys.length = true := few_of (by have := hl ys rfl; omega)
      have f0 : few 0 = true := by decide
      have l1 := lcS_run (tg := qN 18) (t := sB (sIsi .bool (sV 18))) (e := sC (.int 1)) (ρ0 := [.op v, .im (.int k), .dr, .im (.int P), .im (.int cap), .im (.int f), .im (.tuple (iL cs)), .im (.list ((VL P cap f cs).map (rwD P f cs))), .im (.list (barsL P cap f cs)), .im th, .im ts, .un, .un, .un, .un, .im (.tuple ys), .un, .un, .un]) (xs := ys) (c := c) (fun d => if isB .bool d = true then some (.int 1) else none) (fun y _ => by
        refine ⟨_, rfl, ?_⟩
        by_cases z : isB .bool y = true
        · rw [if_pos z]
          simp only [ev_sB, ev_sIsi, ev_sV, ev_sC, List.set_cons_succ, List.set_cons_zero, List.getElem?_cons_succ, List.getElem?_cons_zero, Option.bind_some, z, and_self]
        · rw [if_neg z]
          simp only [ev_sB, ev_sIsi, ev_sV, ev_sC, List.set_cons_succ, List.set_cons_zero, List.getElem?_cons_succ, List.getElem?_cons_zero, Option.bind_some, Bool.not_eq_true _ ▸ z])
      simp only [ev_sAsg, ev_sAndV, ev_sB, ev_sOp, ev_sV, ev_sOfL, ev_sLc, ev_sItT, ev_sLst, ev_sNil, List.getElem?_cons_succ, List.getElem?_cons_zero, Option.bind_some, ein, if_true, fy, ev_wipe0, ev_wipe1, ev_qN, List.set_cons_succ, List.set_cons_zero, l1, List.length_nil, f0, bool_ones, eg]
  · simp only [ev_sNot, ev_sB, ev_sCall, ev_sCons, ev_sNil, ev_sV, List.getElem?_cons_succ, List.getElem?_cons_zero, Option.bind_some, e1, F_l_truly_eq, BEq.rfl, Bool.not_true]
  · simp only [ev_sNot, ev_sB, ev_sCall, ev_sCons, ev_sNil, ev_sV, List.getElem?_cons_succ, List.getElem?_cons_zero, Option.bind_some, e2, e3, F_l_truly_eq, BEq.rfl, Bool.not_true]
theorem eqD_rows : eqD (.list ((VL P cap f cs).map (rwD P f cs))) (.list []) = some (.bool (decide (VL P cap f cs = []))) := vl_eq
theorem head_ok (h : Ask P cap f cs) (hP : P ≤ 11) (hf5 : f ≤ 5) (h64 : (VL P cap f cs).length < 64) (hB : (barsL P cap f cs).length ≤ 1000) (hth : th = if 0 < fitV P cap f (gI cs) then .tuple (iL (nL (opL P cap f cs).dropLast)) else .none) : (sOr (sB (sOp neD (sCall F_bar (sCons (sV 3) (sCons (sV 4) (sCons (sV 5) (sCons (sV 6) sNil))))) (sOp ixD (sOp addD (sV 8) (sLst (sCons (sC .none) sNil))) (sC (.int 0))))) (sB (sOp neD (sV 9) (sIfE (sB (sOp eqD (sV 7) (sLst sNil))) (sC .none) (sCall F_l_fewest (sCons (sV 3) (sCons (sV 7) sNil))))))) [.op v, .im (.int k), .dr, .im (.int P), .im (.int cap), .im (.int f), .im (.tuple (iL cs)), .im (.list ((VL P cap f cs).map (rwD P f cs))), .im (.list (barsL P cap f cs)), .im th, .un, .un, .un, .un, .un, .un, .un, .un, .un] c = some (false, c) := by
  have f0 : few 0 = true := by decide
  have f1 : few 1 = true := by decide
  have e1 := F_bar_eq h
  have e2 : atI (barsL P cap f cs ++ [PyData.none]) 0 = some (barD P cap f cs) := atI_nat (j := 0) (bar_head h)
  have e3 : neD (barD P cap f cs) (barD P cap f cs) = some (.bool false) := neD_b (b := true) pln_bar pln_bar (by decide) (by simp)
  have fb : few ((barsL P cap f cs).length + 1) = true := few_of (by omega)
  have ev := vl_eq (P := P) (cap := cap) (f := f) (cs := cs)
  have e4 : neD th th = some (.bool false) := by
    rw [hth]
    split
    · exact neD_b (n := 1) (b := true) pln_tup pln_tup (by decide) (by simp)
    · exact neD_b (n := 0) (b := true) pln_none pln_none (by decide) (by simp)
  by_cases hf : 0 < fitV P cap f (gI cs)
  · rw [if_pos hf] at hth
    have hv : ¬ VL P cap f cs = [] := (VL_pos h).mp hf
    rw [decide_eq_false hv] at ev
    have e5 := F_l_fewest_eq h hP hf5 hf h64
    rw [← hth] at e5
    simp only [ev_sOr, ev_sB, ev_sOp, ev_sCall, ev_sCons, ev_sNil, ev_sV, ev_sC, ev_sLst, ev_sIfE, List.getElem?_cons_succ, List.getElem?_cons_zero, Option.bind_some, List.length_cons, List.length_nil, Nat.zero_add, f0, f1, if_true, ev_addLL, fb, ev_ixL, e1, e2, e3, Bool.false_eq_true, if_false, ev, e5, e4]
  · rw [if_neg hf] at hth
    have hv : VL P cap f cs = [] := Classical.byContradiction fun w => hf ((VL_pos h).mpr w)
    rw [decide_eq_true hv] at ev
    rw [hth] at e4
    subst hth
    simp only [ev_sOr, ev_sB, ev_sOp, ev_sCall, ev_sCons, ev_sNil, ev_sV, ev_sC, ev_sLst, ev_sIfE, List.getElem?_cons_succ, List.getElem?_cons_zero, Option.bind_some, List.length_cons, List.length_nil, Nat.zero_add, f0, f1, if_true, ev_addLL, fb, ev_ixL, e1, e2, e3, Bool.false_eq_true, if_false, ev, e4]
end
end X
namespace X
open PySem PySem.Spec L2 DL DM
/-- a comprehension whose test draws -/
theorem lcS_drawT {tg : D → Rho → Option Rho} {t : SB} {e : SE} {ρ0 : Rho} (G : D → Prop) (OK : Dr → Prop) : ∀ {xs : List D} {c : Dr}, OK c → (∀ x ∈ xs, ∃ ρ1 d, tg x ρ0 = some ρ1 ∧ G d ∧ ∀ c, OK c → e ρ1 c = some (d, c) ∧ ∃ b c', t ρ1 c = some (b, c') ∧ OK c') → ∃ ds c', lcS tg t e ρ0 xs c = some (ds, c') ∧ ds.length ≤ xs.length ∧ (∀ d ∈ ds, G d) ∧ OK c'
  | [], c, hc, _ => ⟨[], c, rfl, Nat.le_refl _, fun _ h => (by cases h), hc⟩
  | x :: xs, c, hc, h => by
    obtain ⟨ρ1, d, e1, gd, e2⟩ := h x List.mem_cons_self
    obtain ⟨_, b, c1, e3, ok1⟩ := e2 c hc
    have e4 := (e2 c1 ok1).1
    obtain ⟨ds, c2, e5, hl, hG, ok2⟩ := lcS_drawT G OK (xs := xs) ok1 fun y hy => h y (List.mem_cons_of_mem _ hy)
    cases b with
    | true =>
      refine ⟨d :: ds, c2, ?_, by rw [List.length_cons, List.length_cons]; omega, fun z hz => ?_, ok2⟩
      · show ((tg x ρ0).bind fun ρ1 => _) = _
        rw [e1]
        show ((t ρ1 c).bind fun p => _) = _
        rw [e3]
        show ((e ρ1 c1).bind fun q => (lcS tg t e ρ0 xs q.2).bind fun r => some (q.1 :: r.1, r.2)) = _
        rw [e4]
        show (lcS tg t e ρ0 xs c1).bind (fun r => some (d :: r.1, r.2)) = _
        rw [e5]; rfl
      · rcases List.mem_cons.mp hz with w | w
        · rw [w]; exact gd
        · exact hG z w
    | false =>
      refine ⟨ds, c2, ?_, by rw [List.length_cons]; omega, hG, ok2⟩
      show ((tg x ρ0).bind fun ρ1 => _) = _
      rw [e1]
      show ((t ρ1 c).bind fun p => _) = _
      rw [e3]
      exact e5
section
variable {v : V} {k : Int} {P cap f : Nat} {cs : List Int} {c : Dr} {th : D}
def GL9 (ts : List D) : Prop := ∀ x ∈ ts, Gd 100 30 x
theorem gt2 {a b : D} (ha : Gd 100 29 a) (hb : Gd 100 29 b) : Gd 100 30 (.tuple [a, b]) := gd_tuple (by simp) fun z hz => by
  simp only [List.mem_cons, List.not_mem_nil, or_false] at hz
  rcases hz with rfl | rfl <;> assumption
theorem gt3 {a b d : D} (ha : Gd 100 29 a) (hb : Gd 100 29 b) (hd : Gd 100 29 d) : Gd 100 30 (.tuple [a, b, d]) := gd_tuple (by simp) fun z hz => by
  simp only [List.mem_cons, List.not_mem_nil, or_false] at hz
  rcases hz with rfl | rfl | rfl <;> assumption
abbrev turnS : SS := (sThen [12, 13, 14] (sSeq (sAsg (sTup (sCons (sCallD F_l_draw 2 (sCons (sV 3) sNil)) (sCons (sCallD F_l_draw 2 (sCons (sV 3) sNil)) sNil))) (qN 13))
 (sSeq (sAsg (sOp subD (sOp addD (sOp ixD (sV 6) (sC (.int 0))) (sCallD F_l_draw 2 (sCons (sC (.int 5)) sNil))) (sC (.int 2))) (qN 14))
 (sSeq (sAsgL (sAddL (sV 10) (sLst (sCons (sOp addD (sTup (sCons (sC (.str "thread")) sNil)) (sV 13)) (sCons (sTup (sCons (sC (.str "few")) (sCons (sV 14) sNil))) (sCons (sTup (sCons (sC (.str "many")) (sCons (sV 14) sNil))) (sCons (sTup (sCons (sC (.str "thread")) (sCons (sC (.bool true)) (sCons (sOp ixD (sV 13) (sC (.int 1))) sNil)))) (sCons (sV 13) sNil))))))) 10)
 (sSeq (sApp 10 (sCB tupleD (sCons (sOfL (sLc (sR1 (sCons (sV 3) sNil)) (qN 17) (sB (sOp eqD (sCallD F_l_draw 2 (sCons (sC (.int 2)) sNil)) (sC (.int 0)))) (sV 17) [17])) sNil)))
 (sFrz 10 sNext))))))
theorem turn_run (h : Ask P cap f cs) {ts : List D} {j : Int} (ht : GL9 ts) (hl : ts.length ≤ 1000) (hc : OkDr c) : ∃ ts' c', turnS [.op v, .im (.int k), .dr, .im (.int P), .im (.int cap), .im (.int f), .im (.tuple (iL cs)), .im (.list ((VL P cap f cs).map (rwD P f cs))), .im (.list (barsL P cap f cs)), .im th, .im (.list ts), .un, .im (.int j), .un, .un, .un, .un, .un, .un] c = some (.nx, [.op v, .im (.int k), .dr, .im (.int P), .im (.int cap), .im (.int f), .im (.tuple (iL cs)), .im (.list ((VL P cap f cs).map (rwD P f cs))), .im (.list (barsL P cap f cs)), .im th, .im (.list ts'), .un, .un, .un, .un, .un, .un, .un, .un], c') ∧ ts'.length = ts.length + 6 ∧ GL9 ts' ∧ OkDr c' := by
  obtain ⟨f1, fP, P24, c9, hlen, hcb⟩ := id h
  obtain ⟨_, c1, e1, r1, rfl, r10, r11, ok1⟩ := F_l_draw_eq (m := (P : Int)) (by omega) (by omega) hc
  obtain ⟨_, c2, e2, r2, rfl, r20, r21, ok2⟩ := F_l_draw_eq (m := (P : Int)) (by omega) (by omega) ok1
  obtain ⟨_, c3, e3, r3, rfl, r30, r31, ok3⟩ := F_l_draw_eq (m := 5) (by decide) (by decide) ok2
  have f0 : few 0 = true := by decide
  have f1' : few 1 = true := by decide
  have f2 : few 2 = true := by decide
  have f3 : few 3 = true := by decide
  have f5 : few 5 = true := by decide
  have f12 : few (1 + 2) = true := by decide
  have ft : few (ts.length + 5) = true := few_of (by omega)
  have ft2 : few (ts ++ [PyData.tuple [.str "thread", .int r1, .int r2], .tuple [.str "few", .int (gI cs 0 + r3 - 2)], .tuple [.str "many", .int (gI cs 0 + r3 - 2)], .tuple [.str "thread", .bool true, .int r2], .tuple [.int r1, .int r2]]).length = true := few_of (by simp; omega)
  have fP' : few P = true := few_of (by omega)
  have hoP : okR (P : Int) = true := okR_of (by omega) (by omega)
  obtain ⟨t1, t2, t3, _, _⟩ := txt_few
  have t1 := txtOk_up t1 (show 10 ≤ 100 by decide)
  have t2 := txtOk_up t2 (show 10 ≤ 100 by decide)
  have t3 := txtOk_up t3 (show 10 ≤ 100 by decide)
  have c0 := c0_at h
  have a1 : atI [PyData.int r1, .int r2] 1 = some (.int r2) := atI_nat (j := 1) rfl
  obtain ⟨ds, c4, e4, l4, g4, ok4⟩ := lcS_drawT (tg := qN 17) (t := (sB (sOp eqD (sCallD F_l_draw 2 (sCons (sC (.int 2)) sNil)) (sC (.int 0))))) (e := sV 17) (ρ0 := [.op v, .im (.int k), .dr, .im (.int P), .im (.int cap), .im (.int f), .im (.tuple (iL cs)), .im (.list ((VL P cap f cs).map (rwD P f cs))), .im (.list (barsL P cap f cs)), .im th, .ol (ts ++ [PyData.tuple [.str "thread", .int r1, .int r2], .tuple [.str "few", .int (gI cs 0 + r3 - 2)], .tuple [.str "many", .int (gI cs 0 + r3 - 2)], .tuple [.str "thread", .bool true, .int r2], .tuple [.int r1, .int r2]]), .un, .im (.int j), .im (.tuple [.int r1, .int r2]), .im (.int (gI cs 0 + r3 - 2)), .un, .un, .un, .un]) (Gd 100 29) OkDr (xs := rngL 0 P) (c := c3) ok3 (fun x hx => by
    obtain ⟨i, hi, rfl⟩ := rng_mem hx
    refine ⟨_, .int (0 + i), rfl, gd_int, fun c hc => ⟨?_, ?_⟩⟩
    · simp only [ev_sV, List.set_cons_succ, List.set_cons_zero, List.getElem?_cons_succ, List.getElem?_cons_zero, Option.bind_some]
    · obtain ⟨_, c', e, r, rfl, r0, r1, o⟩ := F_l_draw_eq (m := 2) (by decide) (by decide) hc
      exact ⟨decide (r = 0), c', by simp only [ev_sB, ev_sOp, ev_sCallD, ev_sCons, ev_sNil, ev_sC, List.set_cons_succ, List.set_cons_zero, List.getElem?_cons_succ, List.getElem?_cons_zero, Option.bind_some, e, eqD_int], o⟩)
  refine ⟨(ts ++ [PyData.tuple [.str "thread", .int r1, .int r2], .tuple [.str "few", .int (gI cs 0 + r3 - 2)], .tuple [.str "many", .int (gI cs 0 + r3 - 2)], .tuple [.str "thread", .bool true, .int r2], .tuple [.int r1, .int r2]]) ++ [.tuple ds], c4, ?_, by simp, fun x hx => ?_, ok4⟩
  · refine then_run (ρ1 := [.op v, .im (.int k), .dr, .im (.int P), .im (.int cap), .im (.int f), .im (.tuple (iL cs)), .im (.list ((VL P cap f cs).map (rwD P f cs))), .im (.list (barsL P cap f cs)), .im th, .im (.list ((ts ++ [PyData.tuple [.str "thread", .int r1, .int r2], .tuple [.str "few", .int (gI cs 0 + r3 - 2)], .tuple [.str "many", .int (gI cs 0 + r3 - 2)], .tuple [.str "thread", .bool true, .int r2], .tuple [.int r1, .int r2]]) ++ [.tuple ds])), .un, .im (.int j), .im (.tuple [.int r1, .int r2]), .im (.int (gI cs 0 + r3 - 2)), .un, .un, .un, .un]) ?_ rfl
    refine seq_run (ρ1 := [.op v, .im (.int k), .dr, .im (.int P), .im (.int cap), .im (.int f), .im (.tuple (iL cs)), .im (.list ((VL P cap f cs).map (rwD P f cs))), .im (.list (barsL P cap f cs)), .im th, .im (.list ts), .un, .im (.int j), .im (.tuple [.int r1, .int r2]), .un, .un, .un, .un, .un]) (c1 := c2) ?_ ?_
    · simp only [ev_sAsg, ev_sTup, ev_sCons, ev_sNil, ev_sCallD, ev_sV, List.getElem?_cons_succ, List.getElem?_cons_zero, Option.bind_some, e1, e2, List.length_cons, List.length_nil, Nat.zero_add, f2, if_true, ev_qN, List.set_cons_succ, List.set_cons_zero]
    refine seq_run (ρ1 := [.op v, .im (.int k), .dr, .im (.int P), .im (.int cap), .im (.int f), .im (.tuple (iL cs)), .im (.list ((VL P cap f cs).map (rwD P f cs))), .im (.list (barsL P cap f cs)), .im th, .im (.list ts), .un, .im (.int j), .im (.tuple [.int r1, .int r2]), .im (.int (gI cs 0 + r3 - 2)), .un, .un, .un, .un]) (c1 := c3) ?_ ?_
    · simp only [ev_sAsg, ev_sOp, ev_sCons, ev_sNil, ev_sCallD, ev_sV, ev_sC, List.getElem?_cons_succ, List.getElem?_cons_zero, Option.bind_some, ev_ixT, c0, e3, ev_addII, ev_subII, ev_qN, List.set_cons_succ, List.set_cons_zero]
    refine seq_run (ρ1 := [.op v, .im (.int k), .dr, .im (.int P), .im (.int cap), .im (.int f), .im (.tuple (iL cs)), .im (.list ((VL P cap f cs).map (rwD P f cs))), .im (.list (barsL P cap f cs)), .im th, .ol (ts ++ [PyData.tuple [.str "thread", .int r1, .int r2], .tuple [.str "few", .int (gI cs 0 + r3 - 2)], .tuple [.str "many", .int (gI cs 0 + r3 - 2)], .tuple [.str "thread", .bool true, .int r2], .tuple [.int r1, .int r2]]), .un, .im (.int j), .im (.tuple [.int r1, .int r2]), .im (.int (gI cs 0 + r3 - 2)), .un, .un, .un, .un]) (c1 := c3) ?_ ?_
    · unfold sAddL
      simp only [ev_sAsgL, ev_sLst, ev_sTup, ev_sOp, ev_sCons, ev_sNil, ev_sV, ev_sC, List.getElem?_cons_succ, List.getElem?_cons_zero, Option.bind_some, List.length_cons, List.length_nil, Nat.zero_add, f1', f2, f3, f5, if_true, ev_addTT, f12, List.cons_append, List.nil_append, ev_ixT, a1, ft, List.set_cons_succ, List.set_cons_zero]
    refine seq_run (ρ1 := [.op v, .im (.int k), .dr, .im (.int P), .im (.int cap), .im (.int f), .im (.tuple (iL cs)), .im (.list ((VL P cap f cs).map (rwD P f cs))), .im (.list (barsL P cap f cs)), .im th, .ol ((ts ++ [PyData.tuple [.str "thread", .int r1, .int r2], .tuple [.str "few", .int (gI cs 0 + r3 - 2)], .tuple [.str "many", .int (gI cs 0 + r3 - 2)], .tuple [.str "thread", .bool true, .int r2], .tuple [.int r1, .int r2]]) ++ [.tuple ds]), .un, .im (.int j), .im (.tuple [.int r1, .int r2]), .im (.int (gI cs 0 + r3 - 2)), .un, .un, .un, .un]) (c1 := c4) ?_ ?_
    · simp only [ev_sApp, ev_sCB, ev_sCons, ev_sNil, ev_sOfL, ev_sLc, ev_sR1, ev_sV, List.getElem?_cons_succ, List.getElem?_cons_zero, Option.bind_some, hoP, if_true, Int.toNat_natCast, rngL_len, fP', ev_wipe0, ev_wipe1, List.set_cons_succ, List.set_cons_zero, e4, ev_tupL, ft2]
    · exact frz_run rfl rfl
  · rcases List.mem_append.mp hx with w | w
    · rcases List.mem_append.mp w with z | z
      · exact ht x z
      · simp only [List.mem_cons, List.not_mem_nil, or_false] at z
        rcases z with rfl | rfl | rfl | rfl | rfl
        · exact gt3 (gd_str t3) gd_int gd_int
        · exact gt2 (gd_str t1) gd_int
        · exact gt2 (gd_str t2) gd_int
        · exact gt3 (gd_str t3) gd_bool gd_int
        · exact gt2 gd_int gd_int
    · rw [List.mem_singleton] at w
      subst w
      exact gd_tuple (by rw [rngL_len] at l4; omega) g4
theorem bars_gd (h : Ask P cap f cs) : ∀ z ∈ barsL P cap f cs, Gd 10 1 z := fun z hz => by
  obtain ⟨t1, t2, t3, _, _⟩ := txt_few
  unfold barsL at hz
  split at hz
  · rw [List.mem_singleton] at hz
    subst hz
    unfold fmD
    split
    · refine gd_tuple (by simp) fun d hd => ?_
      simp only [List.mem_cons, List.not_mem_nil, or_false] at hd
      rcases hd with rfl | rfl
      · exact gd_str t2
      · exact gd_int
    · refine gd_tuple (by simp) fun d hd => ?_
      simp only [List.mem_cons, List.not_mem_nil, or_false] at hd
      rcases hd with rfl | rfl
      · exact gd_str t1
      · exact gd_int
  · obtain ⟨p, _, rfl⟩ := List.mem_map.mp hz
    refine gd_tuple (by simp) fun d hd => ?_
    simp only [List.mem_cons, List.not_mem_nil, or_false] at hd
    rcases hd with rfl | rfl | rfl
    · exact gd_str t3
    · exact gd_int
    · exact gd_int
theorem bars_len (h : Ask P cap f cs) : (barsL P cap f cs).length ≤ 600 := by
  have h1 := tbL_len (P := P) (cap := cap) (cs := cs) h.f1 (n := P)
  have h2 : P * P ≤ 24 * 24 := Nat.mul_le_mul h.P24 h.P24
  unfold barsL
  split
  · simp
  · rw [List.length_map]; omega
theorem cut_sub {α : Type} {xs : List α} {lo hi : Option Int} : (∀ x ∈ cutL xs lo hi, x ∈ xs) ∧ (cutL xs lo hi).length ≤ xs.length := by
  unfold cutL
  exact ⟨fun x hx => List.drop_subset _ _ (List.take_subset _ _ hx), Nat.le_trans (List.length_take_le' _ _) (by rw [List.length_drop]; omega)⟩
theorem once_run (h : Ask P cap f cs) {ts : List D} (ht : GL9 ts) (hl : ts.length ≤ 10) (hn : barsL P cap f cs ≠ []) (hc : OkDr c) : ∃ ts' c', (sThen [11] (sSeq (sAsg (sCallD F_l_otherwise 2 (sCons (sOp ixD (sV 8) (sC (.int 0))) (sCons (sC (.int 0)) sNil))) (qN 11))
 (sAsg (sOp addD (sOp addD (sV 10) (sSl slD (sV 8) sNoP (sP (sC (.int 9))))) (sLst (sCons (sV 11) (sCons (sOfL (sListOf (sCons (sOp ixD (sV 8) (sC (.int 0))) sNil))) (sCons (sRevA (sOp ixD (sV 8) (sC (.int 0)))) (sCons (sOp addD (sOp ixD (sV 8) (sC (.int 0))) (sTup (sCons (sC (.int 0)) sNil))) sNil)))))) (qN 10)))) [.op v, .im (.int k), .dr, .im (.int P), .im (.int cap), .im (.int f), .im (.tuple (iL cs)), .im (.list ((VL P cap f cs).map (rwD P f cs))), .im (.list (barsL P cap f cs)), .im th, .im (.list ts), .un, .un, .un, .un, .un, .un, .un, .un] c = some (.nx, [.op v, .im (.int k), .dr, .im (.int P), .im (.int cap), .im (.int f), .im (.tuple (iL cs)), .im (.list ((VL P cap f cs).map (rwD P f cs))), .im (.list (barsL P cap f cs)), .im th, .im (.list ts'), .un, .un, .un, .un, .un, .un, .un, .un], c') ∧ ts'.length ≤ 700 ∧ GL9 ts' ∧ OkDr c' := by
  obtain ⟨z, zr, hz⟩ := List.exists_cons_of_ne_nil hn
  have hzm : z ∈ barsL P cap f cs := by rw [hz]; exact List.mem_cons_self
  have gz := bars_gd h z hzm
  have bl := bars_len h
  obtain ⟨s, is, ez, hil, _⟩ := bar_shape h hzm
  have g0 : atI (barsL P cap f cs) 0 = some z := by rw [hz]; exact atI_nat (j := 0) rfl
  obtain ⟨y, c1, e1, ⟨gy, _⟩, ok1⟩ := Fn_l_otherwise_eq 3 0 (by decide) 10 0 z c (by decide) (by decide) (by decide) gz ⟨_, .inr ez⟩ hc
  have e1' : F_l_otherwise [z, .int 0] c = some (y, c1) := e1
  generalize hzs : PyData.str s :: iL is = zs at ez
  have hzl : zs.length ≤ 3 := by rw [← hzs, List.length_cons, iL_len]; omega
  rw [ez] at g0 e1' gz
  obtain ⟨_, j0, ej, gzs⟩ := gz.ofTuple
  have cl := (cut_sub (xs := barsL P cap f cs) (lo := none) (hi := some 9)).2
  have fc : few (ts.length + (cutL (barsL P cap f cs) none (some 9)).length) = true := few_of (by omega)
  have fd : few ((ts ++ cutL (barsL P cap f cs) none (some 9)).length + 4) = true := few_of (by rw [List.length_append]; omega)
  have f0 : few 0 = true := by decide
  have f1 : few 1 = true := by decide
  have f4 : few 4 = true := by decide
  have fz : few zs.length = true := few_of (by omega)
  have fz1 : few (zs.length + 1) = true := few_of (by omega)
  refine ⟨(ts ++ cutL (barsL P cap f cs) none (some 9)) ++ [y, .list zs, .tuple zs.reverse, .tuple (zs ++ [.int 0])], c1, ?_, by simp only [List.length_append, List.length_cons, List.length_nil]; omega, fun x hx => ?_, ok1⟩
  · refine then_run (ρ1 := [.op v, .im (.int k), .dr, .im (.int P), .im (.int cap), .im (.int f), .im (.tuple (iL cs)), .im (.list ((VL P cap f cs).map (rwD P f cs))), .im (.list (barsL P cap f cs)), .im th, .im (.list ((ts ++ cutL (barsL P cap f cs) none (some 9)) ++ [y, .list zs, .tuple zs.reverse, .tuple (zs ++ [.int 0])])), .im y, .un, .un, .un, .un, .un, .un, .un]) ?_ rfl
    refine seq_run (ρ1 := [.op v, .im (.int k), .dr, .im (.int P), .im (.int cap), .im (.int f), .im (.tuple (iL cs)), .im (.list ((VL P cap f cs).map (rwD P f cs))), .im (.list (barsL P cap f cs)), .im th, .im (.list ts), .im y, .un, .un, .un, .un, .un, .un, .un]) (c1 := c1) ?_ ?_
    · simp only [ev_sAsg, ev_sCallD, ev_sCons, ev_sNil, ev_sOp, ev_sV, ev_sC, List.getElem?_cons_succ, List.getElem?_cons_zero, Option.bind_some, ev_ixL, g0, e1', ev_qN, List.set_cons_succ, List.set_cons_zero]
    · simp only [ev_sAsg, ev_sOp, ev_sSl, ev_sNoP, ev_sP, ev_sC, ev_sV, ev_sLst, ev_sCons, ev_sNil, ev_sOfL, ev_sListOf, ev_revA, ev_sTup, List.getElem?_cons_succ, List.getElem?_cons_zero, Option.bind_some, ev_slL, ev_addLL, fc, if_true, ev_ixL, g0, List.length_cons, List.length_nil, Nat.zero_add, f1, f4, fz, ev_addTT, fz1, fd, ev_qN, List.set_cons_succ, List.set_cons_zero]
  · rcases List.mem_append.mp hx with w | w
    · rcases List.mem_append.mp w with q | q
      · exact ht x q
      · exact (bars_gd h x (cut_sub.1 x q)).up (by decide) (by decide)
    · simp only [List.mem_cons, List.not_mem_nil, or_false] at w
      have gzs' : ∀ d ∈ zs, Gd 100 29 d := fun d hd => (gzs d hd).up (by decide) (by omega)
      rcases w with rfl | rfl | rfl | rfl
      · exact gy.up (by decide) (by decide)
      · exact gd_list (by omega) gzs'
      · exact gd_tuple (by rw [List.length_reverse]; omega) fun d hd => gzs' d (List.mem_reverse.mp hd)
      · exact gd_tuple (by rw [List.length_append]; simp; omega) fun d hd => by
          rcases List.mem_append.mp hd with q | q
          · exact gzs' d q
          · rw [List.mem_singleton] at q; subst q; exact gd_int
abbrev lastFor : SS := (sFor (sItL (sOp addD (sV 10) (sIfE (sB (sOp notND (sV 9) (sC .none))) (sLst (sCons (sV 9) (sCons (sOp addD (sV 9) (sTup (sCons (sC (.int 0)) sNil))) (sCons (sSl slD (sV 9) sNoP (sP (sUn negD (sC (.int 1))))) (sCons (sRevA (sV 9)) sNil))))) (sLst sNil)))) (qN 15)
 (sThen [15, 16] (sSeq (sAsg (sAndV (sOp inD (sV 15) (sV 8)) (sOp eqD (sOfL (sLc (sItT (sV 15)) (qN 18) (sB (sIsi .bool (sV 18))) (sC (.int 1)) [18])) (sLst sNil))) (qN 16))
 (sSeq (sIfS (sNot (sB (sCall F_l_truly (sCons (sCall F_is_bar (sCons (sV 3) (sCons (sV 4) (sCons (sV 5) (sCons (sV 6) (sCons (sV 15) sNil)))))) (sCons (sV 16) sNil)))))
 (sRet (sC (.bool false)))
 sNext)
 (sIfS (sNot (sB (sCall F_l_truly (sCons (sCall F_are_looks (sCons (sV 3) (sCons (sV 4) (sCons (sV 5) (sCons (sV 6) (sCons (sV 15) sNil)))))) (sCons (sCall F_l_are_looks (sCons (sV 3) (sCons (sV 7) (sCons (sV 15) sNil)))) sNil)))))
 (sRet (sC (.bool false)))
 sNext)))))
theorem lastL_run (h : Ask P cap f cs) (h64 : (VL P cap f cs).length < 64) {ts : List D} (ht : GL9 ts) (hl : ts.length ≤ 1000) (hth : th = if 0 < fitV P cap f (gI cs) then .tuple (iL (nL (opL P cap f cs).dropLast)) else .none) : lastFor [.op v, .im (.int k), .dr, .im (.int P), .im (.int cap), .im (.int f), .im (.tuple (iL cs)), .im (.list ((VL P cap f cs).map (rwD P f cs))), .im (.list (barsL P cap f cs)), .im th, .im (.list ts), .un, .un, .un, .un, .un, .un, .un, .un] c = some (.nx, [.op v, .im (.int k), .dr, .im (.int P), .im (.int cap), .im (.int f), .im (.tuple (iL cs)), .im (.list ((VL P cap f cs).map (rwD P f cs))), .im (.list (barsL P cap f cs)), .im th, .im (.list ts), .un, .un, .un, .un, .un, .un, .un, .un], c) := by
  have f0 : few 0 = true := by decide
  have f1 : few 1 = true := by decide
  have f4 : few 4 = true := by decide
  have hP := h.P24
  have hfP := h.fP
  have hol := opL_len (P := P) (cap := cap) (f := f) (cs := cs)
  obtain ⟨xs, hxs, gxs, ev⟩ : ∃ xs : List D, xs.length ≤ 4 ∧ GL9 xs ∧ (sIfE (sB (sOp notND (sV 9) (sC .none))) (sLst (sCons (sV 9) (sCons (sOp addD (sV 9) (sTup (sCons (sC (.int 0)) sNil))) (sCons (sSl slD (sV 9) sNoP (sP (sUn negD (sC (.int 1))))) (sCons (sRevA (sV 9)) sNil))))) (sLst sNil)) [.op v, .im (.int k), .dr, .im (.int P), .im (.int cap), .im (.int f), .im (.tuple (iL cs)), .im (.list ((VL P cap f cs).map (rwD P f cs))), .im (.list (barsL P cap f cs)), .im th, .im (.list ts), .un, .un, .un, .un, .un, .un, .un, .un] c = some (.list xs, c) := by
    by_cases hf : 0 < fitV P cap f (gI cs)
    · rw [if_pos hf] at hth
      generalize ho : iL (nL (opL P cap f cs).dropLast) = os at hth
      have hol2 : os.length ≤ 24 := by rw [← ho, iL_len, nL_len, List.length_dropLast]; omega
      have hos : ∀ d ∈ os, Gd 100 29 d := fun d hd => by
        rw [← ho] at hd
        obtain ⟨i, _, rfl⟩ := List.mem_map.mp hd
        exact gd_int
      subst hth
      have en : notND (.tuple os) .none = some (.bool true) := rfl
      have fo : few os.length = true := few_of (by omega)
      have fo1 : few (os.length + 1) = true := few_of (by omega)
      refine ⟨[.tuple os, .tuple (os ++ [.int 0]), .tuple (cutL os none (some (-1))), .tuple os.reverse], by simp, fun x hx => ?_, ?_⟩
      · simp only [List.mem_cons, List.not_mem_nil, or_false] at hx
        rcases hx with rfl | rfl | rfl | rfl
        · exact gd_tuple (by omega) hos
        · exact gd_tuple (by rw [List.length_append]; simp; omega) fun d hd => by
            rcases List.mem_append.mp hd with q | q
            · exact hos d q
            · rw [List.mem_singleton] at q; subst q; exact gd_int
        · exact gd_tuple (Nat.le_trans cut_sub.2 (by omega)) fun d hd => hos d (cut_sub.1 d hd)
        · exact gd_tuple (by rw [List.length_reverse]; omega) fun d hd => hos d (List.mem_reverse.mp hd)
      · simp only [ev_sIfE, ev_sB, ev_sOp, ev_sV, ev_sC, List.getElem?_cons_succ, List.getElem?_cons_zero, Option.bind_some, en, if_true, ev_sLst, ev_sCons, ev_sNil, ev_sTup, List.length_cons, List.length_nil, Nat.zero_add, f1, ev_addTT, fo1, ev_sSl, ev_sNoP, ev_sP, ev_sUn, ev_negI, ev_slT, ev_revA, fo, f4]
    · rw [if_neg hf] at hth
      subst hth
      have en : notND (.none : D) .none = some (.bool false) := rfl
      refine ⟨[], by simp, (fun x hx => by cases hx), ?_⟩
      simp only [ev_sIfE, ev_sB, ev_sOp, ev_sV, ev_sC, List.getElem?_cons_succ, List.getElem?_cons_zero, Option.bind_some, en, Bool.false_eq_true, if_false, ev_sLst, ev_sNil, List.length_nil, f0, if_true]
  have fl : few (ts.length + xs.length) = true := few_of (by omega)
  refine for_run (c1 := c) (xs := ts ++ xs) (st := fun _ => [.op v, .im (.int k), .dr, .im (.int P), .im (.int cap), .im (.int f), .im (.tuple (iL cs)), .im (.list ((VL P cap f cs).map (rwD P f cs))), .im (.list (barsL P cap f cs)), .im th, .im (.list ts), .un, .un, .un, .un, .un, .un, .un, .un]) ?_ rfl fun i x hx => ?_
  · simp only [ev_sItL, ev_sOp, ev_sV, List.getElem?_cons_succ, List.getElem?_cons_zero, Option.bind_some, ev, ev_addLL, fl, if_true]
  · have gx : Gd 100 30 x := by
      rcases List.mem_append.mp (List.mem_of_getElem? hx) with w | w
      · exact ht x w
      · exact gxs x w
    exact ⟨_, rfl, chk_run h h64 gx⟩
end
end X
namespace X
open PySem PySem.Spec L2 DL DM
theorem F_l_small_eq2 {c : Dr} (hc : OkDr c) : ∃ d c', F_l_small [] c = some (d, c') ∧ (∃ P cap f : Nat, d = .tuple [.int P, .int cap, .int f] ∧ 1 ≤ f ∧ f ≤ P ∧ P ≤ 24 ∧ 1 ≤ cap ∧ cap ≤ 9 ∧ SmC cap (min f 5)) ∧ OkDr c' := by
  obtain ⟨d, c1, e1, hd, ok1⟩ := F_l_of_eq (ds := [.tuple [.int 1, .int 9], .tuple [.int 2, .int 5], .tuple [.int 3, .int 4], .tuple [.int 9, .int 2], .tuple [.int 5, .int 3], .tuple [.int 1, .int 5], .tuple [.int 2, .int 3], .tuple [.int 4, .int 1]]) (c := c) (by decide) (by decide) hc
  have hd' : ∃ cap fr : Nat, d = .tuple [.int cap, .int fr] ∧ 1 ≤ cap ∧ cap ≤ 9 ∧ 1 ≤ fr ∧ fr ≤ 9 ∧ SmC cap (min fr 5) := by
    simp only [List.mem_cons, List.not_mem_nil, or_false] at hd
    unfold SmC
    rcases hd with h | h | h | h | h | h | h | h
    · exact ⟨1, 9, h, by decide⟩
    · exact ⟨2, 5, h, by decide⟩
    · exact ⟨3, 4, h, by decide⟩
    · exact ⟨9, 2, h, by decide⟩
    · exact ⟨5, 3, h, by decide⟩
    · exact ⟨1, 5, h, by decide⟩
    · exact ⟨2, 3, h, by decide⟩
    · exact ⟨4, 1, h, by decide⟩
  obtain ⟨cap, fr, rfl, hcap, hcap2, hfr, hfr2, hsm⟩ := hd'
  obtain ⟨d2, c2, e2, r, rfl, r0, r1, ok2⟩ := F_l_draw_eq (m := (fr : Int)) (c := c1) (by omega) (by omega) ok1
  obtain ⟨r, rfl⟩ : ∃ k : Nat, r = k := ⟨r.toNat, by omega⟩
  obtain ⟨d3, c3, e3, q, rfl, q0, q1, ok3⟩ := F_l_draw_eq (m := 25 - (1 + (r : Int))) (c := c2) (by omega) (by omega) ok2
  obtain ⟨q, rfl⟩ : ∃ k : Nat, q = k := ⟨q.toNat, by omega⟩
  refine bodyD_of (P := fun d c' => (∃ P cap f : Nat, d = .tuple [.int P, .int cap, .int f] ∧ 1 ≤ f ∧ f ≤ P ∧ P ≤ 24 ∧ 1 ≤ cap ∧ cap ≤ 9 ∧ SmC cap (min f 5)) ∧ OkDr c') rfl ?_
  unfold S_l_small
  refine ⟨(.rt (.tuple [.int (1 + r + q), .int cap, .int (1 + r)]), [.dr, .im (.int cap), .im (.int (1 + r))], c3), ?_, _, rfl, ⟨1 + r + q, cap, 1 + r, by simp, by omega, by omega, by omega, hcap, hcap2, ?_⟩, ok3⟩
  · simp [few, e1, e2, e3]
  · unfold SmC at hsm ⊢
    omega
theorem sm_pow {cap f : Nat} (h : SmC cap f) : (cap + 1) ^ f ≤ 1000 := by
  have go : ∀ n m : Nat, f ≤ m → (n + 1) ^ m ≤ 1000 → (n + 1) ^ f ≤ 1000 := fun n m h1 h2 => Nat.le_trans (Nat.pow_le_pow_right (by omega) h1) h2
  rcases h with ⟨rfl, h⟩ | ⟨rfl, h⟩ | ⟨rfl, h⟩ | ⟨rfl, h⟩ | ⟨rfl, h⟩ | ⟨rfl, h⟩
  · exact go 1 5 h (by decide)
  · exact go 2 5 h (by decide)
  · exact go 3 4 h (by decide)
  · exact go 9 2 h (by decide)
  · exact go 5 3 h (by decide)
  · exact go 4 1 h (by decide)
theorem lawHolds : LawHolds := by
  intro ns i0 hns hi0
  obtain ⟨c, ec, ok⟩ := cellF_ok hns hi0
  refine ⟨c, ec, fun v => ?_⟩
  generalize ((i0 : Nat) : Int) = k
  obtain ⟨d1, c1, e1, ⟨P0, cap, f0, rfl, hf0, hfP0, hP24, cap1, cap9, hsm⟩, ok1⟩ := F_l_small_eq2 ok
  have em1 : min (P0 : Int) 11 = ((min P0 11 : Nat) : Int) := by omega
  have em2 : min (f0 : Int) 5 = ((min f0 5 : Nat) : Int) := by omega
  obtain ⟨P, hP⟩ : ∃ P, min P0 11 = P := ⟨_, rfl⟩
  obtain ⟨f, hf⟩ : ∃ f, min f0 5 = f := ⟨_, rfl⟩
  rw [hP] at em1
  rw [hf] at em2 hsm
  have f1 : 1 ≤ f := by omega
  have fP : f ≤ P := by omega
  have P11 : P ≤ 11 := by omega
  have f5 : f ≤ 5 := by omega
  have hM : f * cap ≤ 216 := Nat.le_trans (Nat.mul_le_mul (show f ≤ 24 by omega) cap9) (by decide)
  obtain ⟨d6, c2, e2, ⟨cs, rfl, l3, b3⟩, ok2⟩ := F_l_told_counts_eq (P := P) (cap := cap) (f := f) (c := c1) f1 fP (by omega) cap1 (by omega) (by omega) ok1
  have h : Ask P cap f cs := ⟨f1, fP, by omega, cap9, l3, fun x hx => by have := b3 x hx; omega⟩
  have h64 : (VL P cap f cs).length < 64 := VL_few hsm
  have er := F_l_rows_eq h (sm_pow hsm)
  have eb := F_l_bars_eq h
  have el := F_looks_eq h
  obtain ⟨th, hth⟩ : ∃ th : D, th = if 0 < fitV P cap f (gI cs) then .tuple (iL (nL (opL P cap f cs).dropLast)) else .none := ⟨_, rfl⟩
  rw [← hth] at el
  have bl := bars_len h
  have hd := fun c => head_ok (v := v) (k := k) (c := c) h P11 f5 h64 (by omega) hth
  obtain ⟨y, c3, e3, gy, ok3⟩ := Fn_l_thing_eq 4 2 (c := c2) (by decide) (by decide) ok2
  have e3' : F_l_thing [.int 2] c2 = some (y, c3) := e3
  have g0 : few 0 = true := by decide
  have g4 : few 4 = true := by decide
  have hoP : okR (P : Int) = true := okR_of (by omega) (by omega)
  have gr : ∀ d ∈ rngL 0 P, Gd 100 29 d := fun d hd => by
    obtain ⟨i, _, rfl⟩ := rng_mem hd
    exact gd_int
  have gT : GL9 [y, .none, .list (rngL 0 P), .tuple (rngL 0 P)] := fun x hx => by
    simp only [List.mem_cons, List.not_mem_nil, or_false] at hx
    rcases hx with rfl | rfl | rfl | rfl
    · exact gy.up (by decide) (by decide)
    · exact gd_none
    · exact gd_list (by rw [rngL_len]; omega) gr
    · exact gd_tuple (by rw [rngL_len]; omega) gr
  -- once
  obtain ⟨ts, c4, e4, l4, g4', ok4⟩ : ∃ ts c', (sIfS (sB (sOp neD (sV 8) (sLst sNil)))
 (sThen [11] (sSeq (sAsg (sCallD F_l_otherwise 2 (sCons (sOp ixD (sV 8) (sC (.int 0))) (sCons (sC (.int 0)) sNil))) (qN 11))
 (sAsg (sOp addD (sOp addD (sV 10) (sSl slD (sV 8) sNoP (sP (sC (.int 9))))) (sLst (sCons (sV 11) (sCons (sOfL (sListOf (sCons (sOp ixD (sV 8) (sC (.int 0))) sNil))) (sCons (sRevA (sOp ixD (sV 8) (sC (.int 0)))) (sCons (sOp addD (sOp ixD (sV 8) (sC (.int 0))) (sTup (sCons (sC (.int 0)) sNil))) sNil)))))) (qN 10))))
 sNext) [.op v, .im (.int k), .dr, .im (.int P), .im (.int cap), .im (.int f), .im (.tuple (iL cs)), .im (.list ((VL P cap f cs).map (rwD P f cs))), .im (.list (barsL P cap f cs)), .im th, .im (.list [y, .none, .list (rngL 0 P), .tuple (rngL 0 P)]), .un, .un, .un, .un, .un, .un, .un, .un] c3 = some (.nx, [.op v, .im (.int k), .dr, .im (.int P), .im (.int cap), .im (.int f), .im (.tuple (iL cs)), .im (.list ((VL P cap f cs).map (rwD P f cs))), .im (.list (barsL P cap f cs)), .im th, .im (.list ts), .un, .un, .un, .un, .un, .un, .un, .un], c') ∧ ts.length ≤ 700 ∧ GL9 ts ∧ OkDr c' := by
    have en : neD (.list (barsL P cap f cs)) (.list []) = some (.bool (!decide (barsL P cap f cs = []))) := neD_b (n := 2) (.list (bars_pln h)) (Pln.list fun d hd => by cases hd) (by decide) (by
      rw [decide_eq_true_eq]
      constructor
      · intro e; rw [e]
      · intro e; injection e)
    by_cases hn : barsL P cap f cs = []
    · rw [decide_eq_true hn] at en
      refine ⟨_, c3, DL.ifF (c1 := c3) ?_ rfl, by simp, gT, ok3⟩
      simp only [ev_sB, ev_sOp, ev_sV, ev_sLst, ev_sNil, List.getElem?_cons_succ, List.getElem?_cons_zero, Option.bind_some, List.length_nil, g0, if_true, en, Bool.not_true]
    · rw [decide_eq_false hn] at en
      obtain ⟨ts, c4, e4, l4, g4, ok4⟩ := once_run (v := v) (k := k) (th := th) h gT (by simp) hn ok3
      refine ⟨ts, c4, DL.ifT (c1 := c3) ?_ e4, l4, g4, ok4⟩
      simp only [ev_sB, ev_sOp, ev_sV, ev_sLst, ev_sNil, List.getElem?_cons_succ, List.getElem?_cons_zero, Option.bind_some, List.length_nil, g0, if_true, en, Bool.not_false]
  -- turns
  obtain ⟨ρ5, c5, e5, us, rfl, l5, g5, ok5⟩ := for_inv (c := c4) (c1 := c4) (fi := sR1 (sCons (sC (.int 6)) sNil)) (tg := qN 12) (body := turnS) (ρ := [.op v, .im (.int k), .dr, .im (.int P), .im (.int cap), .im (.int f), .im (.tuple (iL cs)), .im (.list ((VL P cap f cs).map (rwD P f cs))), .im (.list (barsL P cap f cs)), .im th, .im (.list ts), .un, .un, .un, .un, .un, .un, .un, .un]) (xs := rngL 0 6) (fun i ρ c => ∃ us : List D, ρ = [.op v, .im (.int k), .dr, .im (.int P), .im (.int cap), .im (.int f), .im (.tuple (iL cs)), .im (.list ((VL P cap f cs).map (rwD P f cs))), .im (.list (barsL P cap f cs)), .im th, .im (.list us), .un, .un, .un, .un, .un, .un, .un, .un] ∧ us.length = ts.length + 6 * i ∧ GL9 us ∧ OkDr c) rfl ⟨ts, rfl, rfl, g4', ok4⟩ (fun i x ρ c hx hI => by
    obtain ⟨us, rfl, hl, hg, hc⟩ := hI
    obtain ⟨hi, rfl⟩ := rngL_lt hx
    obtain ⟨us', c', e, l, g, o⟩ := turn_run (v := v) (k := k) (th := th) (j := 0 + (i : Int)) h hg (by omega) hc
    exact ⟨_, _, c', rfl, e, us', rfl, by omega, g, o⟩)
  rw [rngL_len] at l5
  refine ⟨_, c5, then_run (ρ1 := [.op v, .im (.int k), .dr, .im (.int P), .im (.int cap), .im (.int f), .im (.tuple (iL cs)), .im (.list ((VL P cap f cs).map (rwD P f cs))), .im (.list (barsL P cap f cs)), .im th, .im (.list us), .un, .un, .un, .un, .un, .un, .un, .un]) ?_ rfl, rfl, rfl⟩
  refine seq_run (ρ1 := [.op v, .im (.int k), .dr, .im (.int (P0 : Int)), .im (.int (cap : Int)), .im (.int (f0 : Int)), .un, .un, .un, .un, .un, .un, .un, .un, .un, .un, .un, .un, .un]) (c1 := c1) (by unfold rhoL; simp [e1]) ?_
  refine seq_run (ρ1 := [.op v, .im (.int k), .dr, .im (.int (P : Int)), .im (.int (cap : Int)), .im (.int (f : Int)), .un, .un, .un, .un, .un, .un, .un, .un, .un, .un, .un, .un, .un]) (c1 := c1) (by simp [em1, em2]) ?_
  refine seq_run (ρ1 := [.op v, .im (.int k), .dr, .im (.int P), .im (.int cap), .im (.int f), .im (.tuple (iL cs)), .un, .un, .un, .un, .un, .un, .un, .un, .un, .un, .un, .un]) (c1 := c2) (by
    simp only [ev_sAsg, ev_sCallD, ev_sCons, ev_sNil, ev_sV, List.getElem?_cons_succ, List.getElem?_cons_zero, Option.bind_some, e2, ev_qN, List.set_cons_succ, List.set_cons_zero]) ?_
  refine seq_run (ρ1 := [.op v, .im (.int k), .dr, .im (.int P), .im (.int cap), .im (.int f), .im (.tuple (iL cs)), .im (.list ((VL P cap f cs).map (rwD P f cs))), .un, .un, .un, .un, .un, .un, .un, .un, .un, .un, .un]) (c1 := c2) (by
    simp only [ev_sAsg, ev_sCall, ev_sCons, ev_sNil, ev_sV, List.getElem?_cons_succ, List.getElem?_cons_zero, Option.bind_some, er, ev_qN, List.set_cons_succ, List.set_cons_zero]) ?_
  refine seq_run (ρ1 := [.op v, .im (.int k), .dr, .im (.int P), .im (.int cap), .im (.int f), .im (.tuple (iL cs)), .im (.list ((VL P cap f cs).map (rwD P f cs))), .im (.list (barsL P cap f cs)), .im th, .un, .un, .un, .un, .un, .un, .un, .un, .un]) (c1 := c2) (by
    simp only [ev_sMany, ev_sAvP, ev_sAvNil, ev_sCall, ev_sCons, ev_sNil, ev_sV, List.getElem?_cons_succ, List.getElem?_cons_zero, Option.bind_some, eb, el, List.length_cons, List.length_nil, if_true, ev_setAv, ev_setAv0, ev_slP, List.set_cons_succ, List.set_cons_zero]) ?_
  refine seq_run (ρ1 := [.op v, .im (.int k), .dr, .im (.int P), .im (.int cap), .im (.int f), .im (.tuple (iL cs)), .im (.list ((VL P cap f cs).map (rwD P f cs))), .im (.list (barsL P cap f cs)), .im th, .un, .un, .un, .un, .un, .un, .un, .un, .un]) (c1 := c2) (DL.ifF (hd c2) rfl) ?_
  refine seq_run (ρ1 := [.op v, .im (.int k), .dr, .im (.int P), .im (.int cap), .im (.int f), .im (.tuple (iL cs)), .im (.list ((VL P cap f cs).map (rwD P f cs))), .im (.list (barsL P cap f cs)), .im th, .im (.list [y, .none, .list (rngL 0 P), .tuple (rngL 0 P)]), .un, .un, .un, .un, .un, .un, .un, .un]) (c1 := c3) (by
    unfold sRgL1
    simp only [ev_sAsg, ev_sLst, ev_sCons, ev_sNil, ev_sCallD, ev_sC, ev_sV, ev_sOfL, ev_sCB, List.getElem?_cons_succ, List.getElem?_cons_zero, Option.bind_some, e3', hoP, if_true, Int.toNat_natCast, ev_tupL, List.length_cons, List.length_nil, Nat.zero_add, g4, ev_qN, List.set_cons_succ, List.set_cons_zero]) ?_
  refine seq_run (ρ1 := [.op v, .im (.int k), .dr, .im (.int P), .im (.int cap), .im (.int f), .im (.tuple (iL cs)), .im (.list ((VL P cap f cs).map (rwD P f cs))), .im (.list (barsL P cap f cs)), .im th, .im (.list ts), .un, .un, .un, .un, .un, .un, .un, .un]) (c1 := c4) e4 ?_
  refine seq_run (ρ1 := [.op v, .im (.int k), .dr, .im (.int P), .im (.int cap), .im (.int f), .im (.tuple (iL cs)), .im (.list ((VL P cap f cs).map (rwD P f cs))), .im (.list (barsL P cap f cs)), .im th, .im (.list us), .un, .un, .un, .un, .un, .un, .un, .un]) (c1 := c5) e5 ?_
  exact lastL_run h h64 g5 (by omega) hth
end X

open PySem PySem.W PyProof.Rows
set_option maxHeartbeats 0 in
theorem PySem.Challenge.cw_framecount_k13_bars_and_looks_judged_holds : PySem.Challenge.rw_framecount_k13_bars_and_looks_judged.Holds := by
  w_on; o_law; k_head; (case hw => w_witness2)
  k_fill
  refine L2.walk_of (l := PySem.Challenge.rw_framecount_k13_bars_and_looks_judged) (n := 63) (k := 10) (x := "script") (CX := fun _ => L2.CX0) (sp := fun w => DL.spLaw _) rfl (by decide) rfl ⟨rfl, by decide, by decide⟩ (fun w h Y => PySem.W.kIn_of Y) ?F (fun _ _ a ns hl _ hS => ⟨a, ns, rfl, hS, hl, fun _ => rfl⟩) (fun _ _ _ _ _ h => h)
  case F =>
    intro w mg fa h KX G hmg
    refine' X.all_mk X.lawHolds KX G hmg ?a_is_between ?l_is_between ?c_is_between ?k_is_between ?a_rises ?l_rises ?c_rises ?k_rises ?a_ranges ?l_ranges ?c_ranges ?k_ranges ?a_tight ?l_tight ?c_tight ?k_tight ?a_thread_bars ?l_thread_bars ?c_thread_bars ?k_thread_bars ?a_bar ?l_bar ?c_bar ?k_bar ?a_is_bar ?l_is_bar ?c_is_bar ?k_is_bar ?a_open_threads ?l_open_threads ?c_open_threads ?k_open_threads ?a_looks ?l_looks ?c_looks ?k_looks ?a_are_looks ?l_are_looks ?c_are_looks ?k_are_looks ?a_l_grown ?l_l_grown ?c_l_grown ?k_l_grown ?a_l_is_whole ?l_l_is_whole ?c_l_is_whole ?k_l_is_whole ?a_l_draws ?l_l_draws ?c_l_draws ?k_l_draws ?a_l_draw ?l_l_draw ?c_l_draw ?k_l_draw ?a_l_of ?l_l_of ?c_l_of ?k_l_of ?a_l_small ?l_l_small ?c_l_small ?k_l_small ?a_l_counts ?l_l_counts ?c_l_counts ?k_l_counts ?a_l_row ?l_l_row ?c_l_row ?k_l_row ?a_l_told_counts ?l_l_told_counts ?c_l_told_counts ?k_l_told_counts ?a_l_rows ?l_l_rows ?c_l_rows ?k_l_rows ?a_l_thing ?l_l_thing ?c_l_thing ?k_l_thing ?a_l_otherwise ?l_l_otherwise ?c_l_otherwise ?k_l_otherwise ?a_l_truly ?l_l_truly ?c_l_truly ?k_l_truly ?a_l_bars ?l_l_bars ?c_l_bars ?k_l_bars ?a_l_are_looks ?l_l_are_looks ?c_l_are_looks ?k_l_are_looks ?a_l_fewest ?l_l_fewest ?c_l_fewest ?k_l_fewest ?a_law ?l_law ?c_law ?k_law ?z_abs ?z_all ?z_any ?z_bool ?z_enumerate ?z_int ?z_isinstance ?z_len ?z_list ?z_max ?z_min ?z_range ?z_set ?z_str ?z_sum ?z_tuple ?z_zip
    (case a_is_between => k_is); (case l_is_between => k_is); (case c_is_between => k_is); (case k_is_between => k_is); (case a_rises => k_is); (case l_rises => k_is); (case c_rises => k_is); (case k_rises => k_is); (case a_ranges => k_is); (case l_ranges => k_is); (case c_ranges => k_is); (case k_ranges => k_is); (case a_tight => k_is); (case l_tight => k_is); (case c_tight => k_is); (case k_tight => k_is); (case a_thread_bars => k_is); (case l_thread_bars => k_is); (case c_thread_bars => k_is); (case k_thread_bars => k_is); (case a_bar => k_is); (case l_bar => k_is); (case c_bar => k_is); (case k_bar => k_is); (case a_is_bar => k_is); (case l_is_bar => k_is); (case c_is_bar => k_is); (case k_is_bar => k_is); (case a_open_threads => k_is); (case l_open_threads => k_is); (case c_open_threads => k_is); (case k_open_threads => k_is); (case a_looks => k_is); (case l_looks => k_is); (case c_looks => k_is); (case k_looks => k_is); (case a_are_looks => k_is); (case l_are_looks => k_is); (case c_are_looks => k_is); (case k_are_looks => k_is); (case a_l_grown => k_is); (case l_l_grown => k_is); (case c_l_grown => k_is); (case k_l_grown => k_is); (case a_l_is_whole => k_is); (case l_l_is_whole => k_is); (case c_l_is_whole => k_is); (case k_l_is_whole => k_is); (case a_l_draws => k_is); (case l_l_draws => k_is); (case c_l_draws => k_is); (case k_l_draws => k_is); (case a_l_draw => k_is); (case l_l_draw => k_is); (case c_l_draw => k_is); (case k_l_draw => k_is); (case a_l_of => k_is); (case l_l_of => k_is); (case c_l_of => k_is); (case k_l_of => k_is); (case a_l_small => k_is); (case l_l_small => k_is); (case c_l_small => k_is); (case k_l_small => k_is); (case a_l_counts => k_is); (case l_l_counts => k_is); (case c_l_counts => k_is); (case k_l_counts => k_is); (case a_l_row => k_is); (case l_l_row => k_is); (case c_l_row => k_is); (case k_l_row => k_is); (case a_l_told_counts => k_is); (case l_l_told_counts => k_is); (case c_l_told_counts => k_is); (case k_l_told_counts => k_is); (case a_l_rows => k_is); (case l_l_rows => k_is); (case c_l_rows => k_is); (case k_l_rows => k_is); (case a_l_thing => k_is); (case l_l_thing => k_is); (case c_l_thing => k_is); (case k_l_thing => k_is); (case a_l_otherwise => k_is); (case l_l_otherwise => k_is); (case c_l_otherwise => k_is); (case k_l_otherwise => k_is); (case a_l_truly => k_is); (case l_l_truly => k_is); (case c_l_truly => k_is); (case k_l_truly => k_is); (case a_l_bars => k_is); (case l_l_bars => k_is); (case c_l_bars => k_is); (case k_l_bars => k_is); (case a_l_are_looks => k_is); (case l_l_are_looks => k_is); (case c_l_are_looks => k_is); (case k_l_are_looks => k_is); (case a_l_fewest => k_is); (case l_l_fewest => k_is); (case c_l_fewest => k_is); (case k_l_fewest => k_is); (case a_law => k_is); (case l_law => k_is); (case c_law => k_is); (case k_law => k_is); (case z_abs => k_is); (case z_all => k_is); (case z_any => k_is); (case z_bool => k_is); (case z_enumerate => k_is); (case z_int => k_is); (case z_isinstance => k_is); (case z_len => k_is); (case z_list => k_is); (case z_max => k_is); (case z_min => k_is); (case z_range => k_is); (case z_set => k_is); (case z_str => k_is); (case z_sum => k_is); (case z_tuple => k_is); (case z_zip => k_is)
