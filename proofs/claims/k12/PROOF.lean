import PyProof.Rows.All
import Wide.All
import OpenK.AllK
import Wide.FinOn
import HandS.ForMost
import HandS.ForExc
import HandS.Defaults
import KE.DatumMoreOrd
import KE.DatumIndex
import KE.SortData
import HandS.IsInst
import HandS.HeadHook2
import HandS.Conv
import HandS.DictTup
import PyProof.DictMoreH
import HandS.Head0
import HandS.Head1
import HandS.Head2
import HandS.HeadEnd
import HandS.HeadHook1
import HandS.SetFor
import HandS.Exc
import HandS.ExcOwn
import HandS.ExcIs
import HandS.ExcValue
import HandS.ExcInit
import HandS.ClsMeth
import HandS.Style
import HandS.Strs
import HandS.Flow
import HandS.Text
import HandS.Iter
import KE.KeyNested
import KE.KDictKeyed
import HandS.TupAny
import PyProof.TupleOfSeq
import KE.SortCalls
import HandS.TupSets
import HandS.ExcField
import HandS.TryOnly
import KE.KExcIs
import PySem.Challenge.RW_cornerhunt_k12_lines_refused
set_option Elab.async false
set_option linter.all false
set_option maxRecDepth 100000
set_option maxHeartbeats 0
/-! DL1: values of the heap as data; expressions. -/
namespace DL
open PySem PySem.Spec L2
open PyProof.Rows hiding St
open PySem.W (Datum DatumOrd Tup T3 Holds HoldAll)

/-! ### data in the abstract heap -/
mutual
inductive Rp (H : Hp) : V → PyData → Prop
  | non : Rp H .non .none
  | bl (b : Bool) : Rp H (.bl b) (.bool b)
  | int (i : Int) : Rp H (.int i) (.int i)
  | str (x : Str) : Rp H (.str x) (.str x)
  | lst {a : Addr} {xs : List V} {ds : List PyData} : Rd H a (.lst xs) → RpAll H xs ds → Rp H (.ref a) (.list ds)
  | tup {a : Addr} {xs : List V} {ds : List PyData} : H a = some (.tup xs) → RpAll H xs ds → Rp H (.ref a) (.tuple ds)
  | dic {a : Addr} : H a = some (.dT []) → Rp H (.ref a) (.dict [])
inductive RpAll (H : Hp) : List V → List PyData → Prop
  | nil : RpAll H [] []
  | cons {v : V} {vs : List V} {d : PyData} {ds : List PyData} : Rp H v d → RpAll H vs ds → RpAll H (v :: vs) (d :: ds)
end
theorem rd_mono {H H' : Hp} {a : Addr} {u : HO} (e : Same H H') (h : Rd H a u) : Rd H' a u := by
  rcases h with h | ⟨o, h⟩
  · exact .inl (e a _ h)
  · exact .inr ⟨o, e a _ h⟩
mutual
theorem rp_mono {H H' : Hp} (e : Same H H') : ∀ (d : PyData) (v : V), Rp H v d → Rp H' v d
  | .none, _, h => by cases h; exact .non
  | .bool b, _, h => by cases h; exact .bl b
  | .int i, _, h => by cases h; exact .int i
  | .str x, _, h => by cases h; exact .str x
  | .list ds, _, h => by
    cases h with
    | lst h1 h2 => exact .lst (rd_mono e h1) (rpAll_mono e ds _ h2)
  | .tuple ds, _, h => by
    cases h with
    | tup h1 h2 => exact .tup (e _ _ h1) (rpAll_mono e ds _ h2)
  | .dict _, _, h => by
    cases h with
    | dic h1 => exact .dic (e _ _ h1)
theorem rpAll_mono {H H' : Hp} (e : Same H H') : ∀ (ds : List PyData) (vs : List V), RpAll H vs ds → RpAll H' vs ds
  | [], _, h => by cases h; exact .nil
  | d :: ds, _, h => by
    cases h with
    | cons h1 h2 => exact .cons (rp_mono e d _ h1) (rpAll_mono e ds _ h2)
end
theorem RpAll.length {H : Hp} : ∀ {vs : List V} {ds : List PyData}, RpAll H vs ds → vs.length = ds.length
  | _, _, .nil => rfl
  | _, _, .cons _ t => by rw [List.length_cons, List.length_cons, t.length]
theorem RpAll.append {H : Hp} : ∀ {vs : List V} {ds : List PyData} {ws : List V} {es : List PyData}, RpAll H vs ds → RpAll H ws es → RpAll H (vs ++ ws) (ds ++ es)
  | _, _, _, _, .nil, k => k
  | _, _, _, _, .cons h t, k => .cons h (t.append k)
theorem RpAll.get {H : Hp} : ∀ {vs : List V} {ds : List PyData} {i : Nat} {d : PyData}, RpAll H vs ds → ds[i]? = some d → ∃ v, vs[i]? = some v ∧ Rp H v d
  | _, _, i, d, .nil, h => by simp at h
  | _, _, 0, d, .cons h t, e => by
    simp at e
    subst e
    exact ⟨_, rfl, h⟩
  | _, _, i + 1, d, .cons h t, e => t.get (i := i) (by simpa using e)
theorem RpAll.get' {H : Hp} : ∀ {vs : List V} {ds : List PyData} {i : Nat} {v : V}, RpAll H vs ds → vs[i]? = some v → ∃ d, ds[i]? = some d ∧ Rp H v d
  | _, _, i, d, .nil, h => by simp at h
  | _, _, 0, d, .cons h t, e => by
    simp at e
    subst e
    exact ⟨_, rfl, h⟩
  | _, _, i + 1, d, .cons h t, e => t.get' (i := i) (by simpa using e)
theorem RpAll.take {H : Hp} : ∀ (n : Nat) {vs : List V} {ds : List PyData}, RpAll H vs ds → RpAll H (vs.take n) (ds.take n)
  | 0, _, _, _ => .nil
  | _ + 1, _, _, .nil => .nil
  | n + 1, _, _, .cons h t => .cons h (t.take n)
theorem RpAll.drop {H : Hp} : ∀ (n : Nat) {vs : List V} {ds : List PyData}, RpAll H vs ds → RpAll H (vs.drop n) (ds.drop n)
  | 0, _, _, h => h
  | _ + 1, _, _, .nil => .nil
  | n + 1, _, _, .cons _ t => t.drop n
theorem RpAll.reverse {H : Hp} : ∀ {vs : List V} {ds : List PyData}, RpAll H vs ds → RpAll H vs.reverse ds.reverse
  | _, _, .nil => .nil
  | _, _, .cons h t => by
    rw [List.reverse_cons, List.reverse_cons]
    exact t.reverse.append (.cons h .nil)
theorem RpAll.erase {H : Hp} : ∀ (i : Nat) {vs : List V} {ds : List PyData}, RpAll H vs ds → RpAll H (vs.eraseIdx i) (ds.eraseIdx i)
  | _, _, _, .nil => .nil
  | 0, _, _, .cons _ t => t
  | i + 1, _, _, .cons h t => .cons h (t.erase i)
theorem RpAll.rep {H : Hp} {vs : List V} {ds : List PyData} (h : RpAll H vs ds) : ∀ k : Nat, RpAll H (List.replicate k vs).flatten (List.replicate k ds).flatten
  | 0 => .nil
  | k + 1 => by
    rw [List.replicate_succ, List.replicate_succ, List.flatten_cons, List.flatten_cons]
    exact h.append (h.rep k)
theorem RpAll.ints {H : Hp} : ∀ (ns : List Int), RpAll H (ns.map V.int) (ns.map PyData.int)
  | [] => .nil
  | n :: ns => .cons (.int n) (RpAll.ints ns)
section
variable {X : Cx} {pins : List (Addr × Obj)} {σ : St} {H : Hp} {s : Shared}
theorem rd_list (I : Inv X pins σ H s) {a : Addr} {xs : List V} (h : Rd H a (.lst xs)) : xs.length ≤ sizeLine ∧ ∃ (its : List Value) (n : Nat), Vals xs its ∧ xs.length = its.length ∧ s.heap.get? a = some { cls := .type "list", data := .seq its.toArray n } := by
  obtain ⟨z, its, n, r, e⟩ := h.ok I.hok
  exact ⟨z, its, n, r, r.length, e⟩
mutual
theorem rp_reads (I : Inv X pins σ H s) : ∀ (d : PyData) (v : V) (u : Value), Rp H v d → RelV v u → ∃ as, Reads s.heap u d as
  | .none, _, _, h, r => by
    cases h
    cases r
    exact ⟨_, Reads.none⟩
  | .bool b, _, _, h, r => by
    cases h
    cases r
    exact ⟨_, Reads.bool b⟩
  | .int i, _, _, h, r => by
    cases h
    obtain ⟨t, rfl⟩ := r
    exact ⟨_, Reads.int i t⟩
  | .str x, _, _, h, r => by
    cases h
    obtain ⟨t, rfl⟩ := r
    exact ⟨_, Reads.str x t⟩
  | .list ds, _, _, h, r => by
    cases h with
    | lst hs ha =>
      cases r
      obtain ⟨z, its, n, rv, _, e⟩ := rd_list I hs
      obtain ⟨as, hr⟩ := rpAll_reads I ds _ its ha rv
      exact ⟨_, Reads.list e rfl rfl hr⟩
  | .tuple ds, _, _, h, r => by
    cases h with
    | tup hs ha =>
      cases r
      obtain ⟨its, rv, ⟨o, ho, hc, n, hd⟩, _⟩ := I.tuple (.inl (.inl hs))
      obtain ⟨as, hr⟩ := rpAll_reads I ds _ its ha rv
      exact ⟨_, Reads.tuple ho hc hd hr⟩
  | .dict _, _, _, h, r => by
    cases h with
    | dic hd =>
      cases r
      obtain ⟨_, _, xs, pr, o, es, ep, h1, h2, h3, h4, _⟩ := (show ObjOk X.prog X.w H s.heap _ (.dT []) from I.hok _ _ hd)
      cases pr
      have e0 : es.toList = [] := h4
      exact ⟨_, Reads.dict (kvs := []) h1 h2.1 h3 (by rw [e0]; exact ReadsAll.nil) (by rw [e0]; exact ReadsAll.nil)⟩
theorem rpAll_reads (I : Inv X pins σ H s) : ∀ (ds : List PyData) (vs : List V) (us : List Value), RpAll H vs ds → Vals vs us → ∃ as, ReadsAll s.heap us ds as
  | [], _, _, h, r => by
    cases h
    cases r
    exact ⟨_, ReadsAll.nil⟩
  | d :: ds, _, _, h, r => by
    cases h with
    | cons h1 h2 =>
      cases r with
      | cons r1 r2 =>
        obtain ⟨as, q1⟩ := rp_reads I d _ _ h1 r1
        obtain ⟨bs, q2⟩ := rpAll_reads I ds _ _ h2 r2
        exact ⟨_, ReadsAll.cons q1 q2⟩
end
end

/-! ### slots -/
inductive Sl where
  | d (x : PyData)
  | v (x : V)
abbrev En {α : Type} [DecidableEq α] [Datum α] (x : α) : Sl := .d (Datum.toD x)
abbrev Ro := List (Option Sl)
def RepS (G : Hp) (v : V) : Sl → Prop
  | .d x => Rp G v x
  | .v y => v = y
theorem RepS.mono {G G' : Hp} (e : Same G G') {v : V} {s : Sl} (h : RepS G v s) : RepS G' v s := by
  cases s with
  | d x => exact rp_mono e x v h
  | v y => exact h
inductive RepL (G : Hp) : List V → List Sl → Prop
  | nil : RepL G [] []
  | cons {v : V} {vs : List V} {s : Sl} {ss : List Sl} : RepS G v s → RepL G vs ss → RepL G (v :: vs) (s :: ss)
theorem RepL.mono {G G' : Hp} (e : Same G G') : ∀ {vs : List V} {ss : List Sl}, RepL G vs ss → RepL G' vs ss
  | _, _, .nil => .nil
  | _, _, .cons h t => .cons (h.mono e) (t.mono e)
theorem RepL.length {G : Hp} : ∀ {vs : List V} {ss : List Sl}, RepL G vs ss → vs.length = ss.length
  | _, _, .nil => rfl
  | _, _, .cons _ t => by rw [List.length_cons, List.length_cons, t.length]

/-- the shared part G of the heap H grows to G', H to H': by what is new, and by tuples, which never change -/
structure Gw (G H G' H' : Hp) : Prop where
  g : Same G G'
  h : Same H H'
  i : Same G' H'
  n : ∀ a o, G' a = some o → G a = none → H a = none ∨ ∃ xs, o = .tup xs
theorem Gw.refl {G H : Hp} (s : Same G H) : Gw G H G H := ⟨Same.refl _, Same.refl _, s, fun a o e n => by rw [n] at e; cases e⟩
theorem Gw.trans {G H G1 H1 G2 H2 : Hp} (a : Gw G H G1 H1) (b : Gw G1 H1 G2 H2) : Gw G H G2 H2 :=
  ⟨a.g.trans b.g, a.h.trans b.h, b.i, fun p o e n => by
    cases q : G1 p with
    | some u =>
      have e2 := b.g p u q
      rw [e] at e2
      cases e2
      exact a.n p o q n
    | none =>
      rcases b.n p o e q with z | z
      · exact .inl (a.h.free z)
      · exact .inr z⟩
/-- what is no tuple and not shared stays so -/
theorem Gw.nosh {G H G' H' : Hp} (g : Gw G H G' H') {p : Addr} {o : HO} (h : H p = some o) (nt : ∀ xs, o ≠ .tup xs) (n : G p = none) : G' p = none := by
  cases q : G' p with
  | none => rfl
  | some u =>
    rcases g.n p u q n with z | ⟨xs, rfl⟩
    · rw [h] at z
      cases z
    · have h1 := g.i p _ q
      rw [g.h p _ h] at h1
      exact absurd (Option.some.inj h1) (nt xs)
/-- H alone grows -/
theorem Gw.heap {G H H' : Hp} (s : Same G H) (e : Same H H') : Gw G H G H' := ⟨Same.refl _, e, s.trans e, fun a o e n => by rw [n] at e; cases e⟩
theorem same_upd {H : Hp} {p : Addr} {o : HO} (h : H p = none) : Same H (upd H p o) := fun b u e => by
  rw [upd_ne (ne_of_none e h)]
  exact e
/-- a new object, shared -/
theorem Gw.new {G H : Hp} {p : Addr} {o : HO} (s : Same G H) (h : H p = none) : Gw G H (upd G p o) (upd H p o) :=
  ⟨same_upd (s.free h), same_upd h, fun b u e => by
    by_cases hb : b = p
    · subst hb
      rw [upd_same] at e ⊢
      exact e
    · rw [upd_ne hb] at e ⊢
      exact s b u e, fun b u e n => by
    by_cases hb : b = p
    · subst hb
      exact .inl h
    · rw [upd_ne hb, n] at e
      cases e⟩
/-- a new object, shared too -/
theorem Gw.share {G H G' H' : Hp} {p : Addr} {o : HO} (g : Gw G H G' H') (h : H p = none) (h' : H' p = some o) (hg : G' p = none) : Gw G H (upd G' p o) H' :=
  ⟨g.g.trans (same_upd hg), g.h, fun b u e => by
    by_cases hb : b = p
    · subst hb
      rw [upd_same] at e
      rw [← e]
      exact h'
    · rw [upd_ne hb] at e
      exact g.i b u e, fun b u e n => by
    by_cases hb : b = p
    · subst hb
      exact .inl h
    · rw [upd_ne hb] at e
      exact g.n b u e n⟩
/-- tuples of the heap, shared from now on -/
theorem Gw.tups {G H G' H' G2 : Hp} (g : Gw G H G' H') (h1 : Same G' G2) (h2 : Same G2 H') (h3 : ∀ a o, G2 a = some o → G' a = some o ∨ ∃ xs, o = .tup xs) : Gw G H G2 H' :=
  ⟨g.g.trans h1, g.h, h2, fun a o e n => by
    rcases h3 a o e with z | z
    · exact g.n a o z n
    · exact .inr z⟩

/-- what else is known of the heaps, kept as they grow -/
structure Res where
  p : Hp → Hp → Prop
  mono : ∀ {G H G' H' : Hp}, Same G H → Gw G H G' H' → p G H → p G' H'
def R0 : Res := ⟨fun _ _ => True, fun _ _ _ => trivial⟩
def Res.and (A B : Res) : Res := ⟨fun G H => A.p G H ∧ B.p G H, fun s g h => ⟨A.mono s g h.1, B.mono s g h.2⟩⟩

def EnvR (G : Hp) (σ : St) (ρ : Ro) : Prop := ρ.length = σ.length ∧ ∀ (i : Nat) (s : Sl), ρ[i]? = some (some s) → ∃ v, σ[i]? = some (some v) ∧ RepS G v s
theorem EnvR.mono {G G' : Hp} (e : Same G G') {σ : St} {ρ : Ro} (h : EnvR G σ ρ) : EnvR G' σ ρ := ⟨h.1, fun i s q => by
  obtain ⟨v, h1, h2⟩ := h.2 i s q
  exact ⟨v, h1, h2.mono e⟩⟩
theorem EnvR.set {G : Hp} {σ : St} {ρ : Ro} {v : V} {s : Sl} (h : EnvR G σ ρ) (r : RepS G v s) (j : Nat) : EnvR G (σ.set j (some v)) (ρ.set j (some s)) := by
  refine ⟨by rw [List.length_set, List.length_set]; exact h.1, fun i t q => ?_⟩
  by_cases hj : j = i
  · subst hj
    by_cases hl : j < ρ.length
    · rw [List.getElem?_set_self hl] at q
      cases q
      exact ⟨v, List.getElem?_set_self (by rw [← h.1]; exact hl), r⟩
    · rw [List.getElem?_eq_none (by rw [List.length_set]; omega)] at q
      cases q
  · rw [List.getElem?_set_ne hj] at q ⊢
    exact h.2 i t q
/-- ρ' says no more than ρ -/
def Wkr (ρ ρ' : Ro) : Prop := ρ'.length = ρ.length ∧ ∀ (i : Nat) (s : Sl), ρ'[i]? = some (some s) → ρ[i]? = some (some s)
theorem EnvR.weak {G : Hp} {σ : St} {ρ ρ' : Ro} (h : EnvR G σ ρ) (w : Wkr ρ ρ') : EnvR G σ ρ' := ⟨w.1.trans h.1, fun i s q => h.2 i s (w.2 i s q)⟩
theorem Wkr.refl (ρ : Ro) : Wkr ρ ρ := ⟨rfl, fun _ _ h => h⟩
theorem Wkr.nil : Wkr [] [] := Wkr.refl _
theorem Wkr.same {o : Option Sl} {ρ ρ' : Ro} (h : Wkr ρ ρ') : Wkr (o :: ρ) (o :: ρ') := ⟨by rw [List.length_cons, List.length_cons, h.1], fun i s q => by
  cases i with
  | zero => exact q
  | succ i => exact h.2 i s (by simpa using q)⟩
theorem Wkr.drop {o : Option Sl} {ρ ρ' : Ro} (h : Wkr ρ ρ') : Wkr (o :: ρ) (none :: ρ') := ⟨by rw [List.length_cons, List.length_cons, h.1], fun i s q => by
  cases i with
  | zero => cases q
  | succ i => exact h.2 i s (by simpa using q)⟩

structure Cxt (W : Res) (ρ : Ro) (G : Hp) (σ : St) (H : Hp) : Prop where
  s : Same G H
  w : W.p G H
  e : EnvR G σ ρ
theorem Cxt.step {W : Res} {ρ : Ro} {G H G' H' : Hp} {σ : St} (c : Cxt W ρ G σ H) (g : Gw G H G' H') : Cxt W ρ G' σ H' := ⟨g.i, W.mono c.s g c.w, c.e.mono g.g⟩

/-! ### readings by data -/
def tD (W : Res) (ρ : Ro) (s : Sl) : TE := fun σ H Q => ∃ G, Cxt W ρ G σ H ∧ ∀ v G' H', Gw G H G' H' → RepS G' v s → Q v H'
def tT (W : Res) (ρ : Ro) (b : Bool) : TT := fun σ H Q => ∃ G, Cxt W ρ G σ H ∧ ∀ G' H', Gw G H G' H' → Q b H'
def tA (W : Res) (ρ : Ro) (ss : List Sl) : TA := fun σ H Q => ∃ G, Cxt W ρ G σ H ∧ ∀ vs G' H', Gw G H G' H' → RepL G' vs ss → Q vs H'
/-- a new list, nobody's yet -/
def tN (W : Res) (ρ : Ro) (ds : List PyData) : TE := fun σ H Q => ∃ G, Cxt W ρ G σ H ∧ ∀ p xs G' H', Gw G H G' H' → H p = none → G' p = none → H' p = some (.lst xs) → RpAll G' xs ds → Q (.ref p) H'
/-- a list, whosever it is -/
def tS (W : Res) (ρ : Ro) (ds : List PyData) : TE := fun σ H Q => ∃ G, Cxt W ρ G σ H ∧ ∀ p xs G' H', Gw G H G' H' → Rd H' p (.lst xs) → RpAll G' xs ds → Q (.ref p) H'

abbrev DE (X : Cx) (W : Res) (e : Expr) (ρ : Ro) (s : Sl) : Prop := PE X e (tD W ρ s)
abbrev DT (X : Cx) (W : Res) (e : Expr) (ρ : Ro) (b : Bool) : Prop := PT X e (tT W ρ b)
abbrev DW (X : Cx) (W : Res) (e : Expr) (ρ : Ro) (b : Bool) : Prop := PW X e (tT W ρ b)
abbrev DA (X : Cx) (W : Res) (es : List Expr) (ρ : Ro) (ss : List Sl) : Prop := PA X es (tA W ρ ss)
abbrev DN (X : Cx) (W : Res) (e : Expr) (ρ : Ro) (ds : List PyData) : Prop := PE X e (tN W ρ ds)
abbrev DS (X : Cx) (W : Res) (e : Expr) (ρ : Ro) (ds : List PyData) : Prop := PE X e (tS W ρ ds)

section
variable {X : Cx} {W : Res} {ρ : Ro} {pos : Pos} {e a b c : Expr} {s sa sb : Sl}
theorem pe_imp {t t' : TE} (h : PE X e t) (k : ∀ σ H Q, t' σ H Q → t σ H Q) : PE X e t' := ⟨fun pins st σ H Q I hq => h.run pins st σ H Q I (k σ H Q hq)⟩
theorem pt_imp {t t' : TT} (h : PT X e t) (k : ∀ σ H Q, t' σ H Q → t σ H Q) : PT X e t' := ⟨fun pins st σ H Q I hq => h.run pins st σ H Q I (k σ H Q hq)⟩
theorem pw_imp {t t' : TT} (h : PW X e t) (k : ∀ σ H Q, t' σ H Q → t σ H Q) : PW X e t' := ⟨fun wh pins st σ H Q I hq => h.run wh pins st σ H Q I (k σ H Q hq)⟩
theorem pa_imp {es : List Expr} {t t' : TA} (h : PA X es t) (k : ∀ σ H Q, t' σ H Q → t σ H Q) : PA X es t' := ⟨fun p pins st σ H Q I hq => h.run p pins st σ H Q I (k σ H Q hq)⟩

theorem upd_rd {H : Hp} {p : Addr} {o : HO} : Rd (upd H p o) p o := .inl upd_same
/-- a new list is a list -/
theorem de_n {ds : List PyData} (h : DN X W e ρ ds) : DE X W e ρ (.d (.list ds)) := pe_imp h fun σ H Q ⟨G, c, k⟩ => ⟨G, c, fun p xs G' H' g hp hg hh ha =>
  k (.ref p) (upd G' p (.lst xs)) H' (g.share hp hh hg) (.lst upd_rd (rpAll_mono (same_upd hg) _ _ ha))⟩
theorem ds_d {ds : List PyData} (h : DE X W e ρ (.d (.list ds))) : DS X W e ρ ds := pe_imp h fun σ H Q ⟨G, c, k⟩ => ⟨G, c, fun v G' H' g r => by
  cases r with
  | lst h1 h2 => exact k _ _ G' H' g (rd_mono g.i h1) h2⟩
theorem ds_n {ds : List PyData} (h : DN X W e ρ ds) : DS X W e ρ ds := ds_d (de_n h)
/-- a list of one's own: the slot holds its address -/
theorem ds_own {i : Nat} {x : Str} {p : Addr} {ds : List PyData} (h : ∀ G H, W.p G H → ∃ xs, H p = some (.lst xs) ∧ RpAll G xs ds) (hr : ρ[i]? = some (some (.v (.ref p)))) (hN : X.N[i]? = some x := by rfl)
    (hv : Vis X.env.scope x := by first | exact Or.inl rfl | exact Or.inr (Or.inl rfl) | exact Or.inr (Or.inr rfl)) (hd : (x == ("__debug__" : Str)) = false := by decide) (hcd : (x == ("__classdict__" : Str)) = false := by decide) : DS X W (.Name x pos) ρ ds :=
  pe_imp (pe_var hN hv hd hcd) fun σ H Q ⟨G, c, k⟩ => by
    obtain ⟨v, h1, h2⟩ := c.e.2 i _ hr
    have e : v = .ref p := h2
    subst e
    obtain ⟨xs, h3, h4⟩ := h G H c.w
    exact ⟨_, h1, k p xs G H (.refl c.s) (.inl h3) h4⟩

theorem de_var {i : Nat} {x : Str} (hr : ρ[i]? = some (some s)) (hN : X.N[i]? = some x := by rfl)
    (hv : Vis X.env.scope x := by first | exact Or.inl rfl | exact Or.inr (Or.inl rfl) | exact Or.inr (Or.inr rfl)) (hd : (x == ("__debug__" : Str)) = false := by decide) (hcd : (x == ("__classdict__" : Str)) = false := by decide) : DE X W (.Name x pos) ρ s :=
  pe_imp (pe_var hN hv hd hcd) fun σ H Q ⟨G, c, k⟩ => by
    obtain ⟨v, h1, h2⟩ := c.e.2 i s hr
    exact ⟨v, h1, k v G H (.refl c.s) h2⟩
theorem de_cst {v : V} {s : Sl} (h : PE X e (tC v)) (r : ∀ G, RepS G v s) : DE X W e ρ s := pe_imp h fun σ H Q ⟨G, c, k⟩ => k v G H (.refl c.s) (r G)
theorem de_int {i : Int} {j : Nat} : DE X W (.Constant (.int i) j pos) ρ (En i) := de_cst pe_int fun _ => .int i
theorem de_bl {b : Bool} {j : Nat} : DE X W (.Constant (.bool b) j pos) ρ (En b) := de_cst pe_bl fun _ => .bl b
theorem de_str {x : Str} {j : Nat} : DE X W (.Constant (.str x) j pos) ρ (En x) := de_cst pe_str fun _ => .str x
theorem de_non {j : Nat} : DE X W (.Constant .none j pos) ρ (.d .none) := de_cst pe_non fun _ => .non
theorem de_is {s' : Sl} (h : DE X W e ρ s) (q : s = s') : DE X W e ρ s' := q ▸ h
theorem dt_is {b b' : Bool} (h : DT X W e ρ b) (q : b = b') : DT X W e ρ b' := q ▸ h

/-! ### operators by values -/
/-- r on values that stand for sa, sb gives one that stands for s -/
def RV (W : Res) (r : R2) (sa sb s : Sl) : Prop := ∀ (G H : Hp) (x y : V) (Q : VK), Same G H → W.p G H → RepS G x sa → RepS G y sb → (∀ v G' H', Gw G H G' H' → RepS G' v s → Q v H') → r x y H Q
theorem de_tOp {t : R2} (h : PE X e (tOp t (tD W ρ sa) (tD W ρ sb))) (hr : RV W t sa sb s) : DE X W e ρ s := pe_imp h fun σ H Q ⟨G, c, k⟩ =>
  ⟨G, c, fun x G1 H1 g1 r1 => ⟨G1, c.step g1, fun y G2 H2 g2 r2 => hr G2 H2 x y Q g2.i ((c.step g1).step g2).w (r1.mono g2.g) r2 fun v G3 H3 g3 r3 => k v G3 H3 ((g1.trans g2).trans g3) r3⟩⟩
theorem de_op {op : Operator} {r : R2} (ho : OpR X (binaryOp op) r) (ha : DE X W a ρ sa) (hb : DE X W b ρ sb) (hr : RV W r sa sb s) : DE X W (.BinOp a op b pos) ρ s := de_tOp (pe_op ho ha hb) hr
theorem de_cmp {op : CmpOp} {r : R2} (ho : OpR X (compareOp op) r) (ha : DE X W a ρ sa) (hb : DE X W b ρ sb) (hr : RV W r sa sb s) (hm : behindInMarks op b = false := by rfl) : DE X W (.Compare a [op] [b] pos) ρ s := de_tOp (pe_cmpR ho ha hb hm) hr
theorem dt_cmp {op : CmpOp} {r : R2} {k : Bool} (ho : OpR X (compareOp op) r) (ha : DE X W a ρ sa) (hb : DE X W b ρ sb) (hr : RV W r sa sb (En k)) (hm : behindInMarks op b = false := by rfl) : DT X W (.Compare a [op] [b] pos) ρ k :=
  pt_imp (pt_cmpR ho ha hb hm) fun σ H Q ⟨G, c, q⟩ =>
    ⟨G, c, fun x G1 H1 g1 r1 => ⟨G1, c.step g1, fun y G2 H2 g2 r2 => hr G2 H2 x y _ g2.i ((c.step g1).step g2).w (r1.mono g2.g) r2 fun v G3 H3 g3 r3 => by
      cases r3
      exact ⟨k, rfl, q G3 H3 ((g1.trans g2).trans g3)⟩⟩⟩
/-- a bool as a test -/
theorem dt_val {k : Bool} (h : DE X W e ρ (En k)) (he : ∀ whole, isTrue e X.env whole = (do let v ← whole; standAt e.pos; holding [v] (truthy v)) := by intro _; rfl) : DT X W e ρ k :=
  pt_imp (pt_val h he) fun σ H Q ⟨G, c, q⟩ => ⟨G, c, fun v G1 H1 g1 r1 => by
    cases r1
    exact ⟨k, rfl, q G1 H1 g1⟩⟩
theorem rv_I0 {f : Int → Int → V} {i j : Int} {s : Sl} (h : ∀ G, RepS G (f i j) s) : RV W (rI0 f) (En i) (En j) s := fun G H x y Q hs hw r1 r2 k => by
  cases r1
  cases r2
  exact ⟨i, j, rfl, rfl, k _ G H (.refl hs) (h G)⟩
theorem rv_I {C : Int → Int → Prop} {f : Int → Int → V} {i j : Int} {s : Sl} (hc : C i j) (h : ∀ G, RepS G (f i j) s) : RV W (rI C f) (En i) (En j) s := fun G H x y Q hs hw r1 r2 k => by
  cases r1
  cases r2
  exact ⟨i, j, rfl, rfl, hc, k _ G H (.refl hs) (h G)⟩
variable {i j : Int}
theorem de_add (ha : DE X W a ρ (En i)) (hb : DE X W b ρ (En j)) : DE X W (.BinOp a .Add b pos) ρ (En (i + j)) := de_op op_add ha hb (rv_I0 fun _ => .int _)
theorem de_sub (ha : DE X W a ρ (En i)) (hb : DE X W b ρ (En j)) : DE X W (.BinOp a .Sub b pos) ρ (En (i - j)) := de_op op_sub ha hb (rv_I0 fun _ => .int _)
theorem de_mul (ha : DE X W a ρ (En i)) (hb : DE X W b ρ (En j)) (hc : CMul i j) : DE X W (.BinOp a .Mult b pos) ρ (En (i * j)) := de_op op_mul ha hb (rv_I hc fun _ => .int _)
theorem de_fdiv (ha : DE X W a ρ (En i)) (hb : DE X W b ρ (En j)) (hc : CDiv i j) : DE X W (.BinOp a .FloorDiv b pos) ρ (En (i / j)) := de_op op_fdiv ha hb (rv_I hc fun _ => .int _)
theorem de_mod (ha : DE X W a ρ (En i)) (hb : DE X W b ρ (En j)) (hc : 0 < j) : DE X W (.BinOp a .Mod b pos) ρ (En (i % j)) := de_op op_mod ha hb (rv_I hc fun _ => .int _)
theorem de_pow (ha : DE X W a ρ (En i)) (hb : DE X W b ρ (En j)) (hc : CPow i j) : DE X W (.BinOp a .Pow b pos) ρ (En (i ^ j.toNat)) := de_op op_pow ha hb (rv_I hc fun _ => .int _)
theorem de_shr (ha : DE X W a ρ (En i)) (hb : DE X W b ρ (En j)) (hc : 0 ≤ j) : DE X W (.BinOp a .RShift b pos) ρ (En (i / 2 ^ j.toNat)) := de_op op_shr ha hb (rv_I hc fun _ => .int _)
theorem de_and2 (ha : DE X W a ρ (En i)) (hb : DE X W b ρ (En j)) : DE X W (.BinOp a .BitAnd b pos) ρ (En (Builtin.bitAnd i j)) := de_op op_and ha hb (rv_I0 fun _ => .int _)
theorem de_lt (ha : DE X W a ρ (En i)) (hb : DE X W b ρ (En j)) : DE X W (.Compare a [.Lt] [b] pos) ρ (En (decide (i < j))) := de_cmp op_lt ha hb (rv_I0 fun _ => .bl _) (nomark _)
theorem de_le (ha : DE X W a ρ (En i)) (hb : DE X W b ρ (En j)) : DE X W (.Compare a [.LtE] [b] pos) ρ (En (decide (i ≤ j))) := de_cmp op_le ha hb (rv_I0 fun _ => .bl _) (nomark _)
theorem de_gt (ha : DE X W a ρ (En i)) (hb : DE X W b ρ (En j)) : DE X W (.Compare a [.Gt] [b] pos) ρ (En (decide (j < i))) := de_cmp op_gt ha hb (rv_I0 fun _ => .bl _) (nomark _)
theorem de_ge (ha : DE X W a ρ (En i)) (hb : DE X W b ρ (En j)) : DE X W (.Compare a [.GtE] [b] pos) ρ (En (decide (j ≤ i))) := de_cmp op_ge ha hb (rv_I0 fun _ => .bl _) (nomark _)
theorem dt_lt (ha : DE X W a ρ (En i)) (hb : DE X W b ρ (En j)) : DT X W (.Compare a [.Lt] [b] pos) ρ (decide (i < j)) := dt_cmp op_lt ha hb (rv_I0 fun _ => .bl _) (nomark _)
theorem dt_le (ha : DE X W a ρ (En i)) (hb : DE X W b ρ (En j)) : DT X W (.Compare a [.LtE] [b] pos) ρ (decide (i ≤ j)) := dt_cmp op_le ha hb (rv_I0 fun _ => .bl _) (nomark _)
theorem dt_gt (ha : DE X W a ρ (En i)) (hb : DE X W b ρ (En j)) : DT X W (.Compare a [.Gt] [b] pos) ρ (decide (j < i)) := dt_cmp op_gt ha hb (rv_I0 fun _ => .bl _) (nomark _)
theorem dt_ge (ha : DE X W a ρ (En i)) (hb : DE X W b ρ (En j)) : DT X W (.Compare a [.GtE] [b] pos) ρ (decide (j ≤ i)) := dt_cmp op_ge ha hb (rv_I0 fun _ => .bl _) (nomark _)
end

/-! ### == and != and in, by data -/
section
variable {X : Cx} {W : Res} {ρ : Ro} {pos : Pos} {e a b c : Expr} {s sa sb : Sl} {α : Type} [DecidableEq α] [Datum α]
theorem rp_holds {pins : List (Addr × Obj)} {σ : St} {G H : Hp} {st : Shared} (I : Inv X pins σ H st) (hs : Same G H) {v : V} {u : Value} {x : α} (r : RepS G v (En x)) (rv : RelV v u) : Holds st.heap u x := rp_reads I _ _ _ (rp_mono hs _ _ r) rv
/-- an operator on two data -/
def rDD (x y : α) (z : V) : R2 := fun u v H Q => ∃ G, Same G H ∧ RepS G u (En x) ∧ RepS G v (En y) ∧ Q z H
theorem rv_DD {x y : α} {z : V} {s : Sl} (h : ∀ G, RepS G z s) : RV W (rDD x y z) (En x) (En y) s := fun G H u v Q hs hw r1 r2 k => ⟨G, hs, r1, r2, k z G H (.refl hs) (h G)⟩
theorem op_eqDD {x y : α} (hu : X.A.units + Datum.depth α < cLine) : OpR X (compareOp .Eq) (rDD x y (.bl (decide (x = y)))) := by
  intro pins st σ H u v u' v' Q I ru rv ⟨G, hs, r1, r2, q⟩
  exact PySem.W.eq_datum (rp_holds I hs r1 ru) (rp_holds I hs r2 rv) hu ⟨.bl _, H, I, rfl, q⟩
theorem op_neDD {x y : α} (hu : X.A.units + Datum.depth α < cLine) : OpR X (compareOp .NotEq) (rDD x y (.bl (decide (x ≠ y)))) := by
  intro pins st σ H u v u' v' Q I ru rv ⟨G, hs, r1, r2, q⟩
  exact PySem.W.ne_datum (rp_holds I hs r1 ru) (rp_holds I hs r2 rv) hu ⟨.bl _, H, I, rfl, q⟩
theorem u64 {k n : Nat} (hr : Room k X.A) (h : n ≤ 64 := by decide) : X.A.units + n < cLine := by
  have := hr.units
  omega
variable {x y : α} {k : Nat}
/-- equal data, as a truth value -/
def eqB {α : Type} [DecidableEq α] (x y : α) : Bool := decide (x = y)
theorem eqB_true {α : Type} [DecidableEq α] {x y : α} : eqB x y = true ↔ x = y := by
  unfold eqB
  exact decide_eq_true_iff
theorem eqB_false {α : Type} [DecidableEq α] {x y : α} : eqB x y = false ↔ x ≠ y := by
  unfold eqB
  exact decide_eq_false_iff_not
theorem neB_eq {α : Type} [DecidableEq α] (x y : α) : decide (x ≠ y) = !eqB x y := by
  unfold eqB
  exact decide_not
theorem de_eq (hr : Room k X.A) (ha : DE X W a ρ (En x)) (hb : DE X W b ρ (En y)) (hd : Datum.depth α ≤ 64 := by decide) : DE X W (.Compare a [.Eq] [b] pos) ρ (En (eqB x y)) := de_cmp (op_eqDD (u64 hr hd)) ha hb (rv_DD fun _ => .bl _) (nomark _)
theorem de_ne (hr : Room k X.A) (ha : DE X W a ρ (En x)) (hb : DE X W b ρ (En y)) (hd : Datum.depth α ≤ 64 := by decide) : DE X W (.Compare a [.NotEq] [b] pos) ρ (En (!eqB x y)) := by
  rw [← neB_eq]
  exact de_cmp (op_neDD (u64 hr hd)) ha hb (rv_DD fun _ => .bl _) (nomark _)
theorem dt_eq (hr : Room k X.A) (ha : DE X W a ρ (En x)) (hb : DE X W b ρ (En y)) (hd : Datum.depth α ≤ 64 := by decide) : DT X W (.Compare a [.Eq] [b] pos) ρ (eqB x y) := dt_cmp (op_eqDD (u64 hr hd)) ha hb (rv_DD fun _ => .bl _) (nomark _)
theorem dt_ne (hr : Room k X.A) (ha : DE X W a ρ (En x)) (hb : DE X W b ρ (En y)) (hd : Datum.depth α ≤ 64 := by decide) : DT X W (.Compare a [.NotEq] [b] pos) ρ (!eqB x y) := by
  rw [← neB_eq]
  exact dt_cmp (op_neDD (u64 hr hd)) ha hb (rv_DD fun _ => .bl _) (nomark _)
end
end DL

/-! DL2: more expressions: truth, displays, calls of built-ins, places, slices, sums of lists. -/
namespace DL
open PySem PySem.Spec L2
open PyProof.Rows hiding St
open PySem.W (Datum DatumOrd Tup T3 Holds HoldAll)
section
variable {X : Cx} {W : Res} {ρ : Ro} {pos : Pos} {e a b c : Expr} {rest : List Expr} {s sa sb : Sl}

/-! ### truth -/
variable {p q r : Bool}
theorem dw_and1 (ha : DT X W a ρ p) : DW X W (.BoolOp .And [a] pos) ρ p := pw_and1 ha
theorem dw_or1 (ha : DT X W a ρ p) : DW X W (.BoolOp .Or [a] pos) ρ p := pw_or1 ha
theorem dw_and (ha : DT X W a ρ p) (hb : p = true → DW X W (.BoolOp .And (b :: rest) pos) ρ q) : DW X W (.BoolOp .And (a :: b :: rest) pos) ρ (p && q) := by
  cases p with
  | true => exact pw_imp (pw_and ha (hb rfl)) fun σ H Q ⟨G, c, k⟩ => ⟨G, c, fun G1 H1 g1 => iteT ⟨G1, c.step g1, fun G2 H2 g2 => k G2 H2 (g1.trans g2)⟩⟩
  | false => exact pw_imp (pw_and (tB' := fun _ _ _ => False) ha ⟨fun _ _ _ _ _ _ _ z => z.elim⟩) fun σ H Q ⟨G, c, k⟩ => ⟨G, c, fun G1 H1 g1 => iteF (k G1 H1 g1)⟩
theorem dw_or (ha : DT X W a ρ p) (hb : p = false → DW X W (.BoolOp .Or (b :: rest) pos) ρ q) : DW X W (.BoolOp .Or (a :: b :: rest) pos) ρ (p || q) := by
  cases p with
  | false => exact pw_imp (pw_or ha (hb rfl)) fun σ H Q ⟨G, c, k⟩ => ⟨G, c, fun G1 H1 g1 => iteF ⟨G1, c.step g1, fun G2 H2 g2 => k G2 H2 (g1.trans g2)⟩⟩
  | true => exact pw_imp (pw_or (tB' := fun _ _ _ => False) ha ⟨fun _ _ _ _ _ _ _ z => z.elim⟩) fun σ H Q ⟨G, c, k⟩ => ⟨G, c, fun G1 H1 g1 => iteT (k G1 H1 g1)⟩
theorem dt_w (h : DW X W e ρ p) : DT X W e ρ p := PW.pt h
theorem dt_not (h : DT X W a ρ p) : DT X W (.UnaryOp .Not a pos) ρ (!p) := pt_imp (pt_not h) fun σ H Q ⟨G, c, k⟩ => ⟨G, c, fun G1 H1 g1 => k G1 H1 g1⟩
theorem de_one {op} (h : DE X W a ρ s) : DE X W (.BoolOp op [a] pos) ρ s := pe_one h
theorem de_and (ha : DE X W a ρ (En p)) (hb : p = true → DE X W (.BoolOp .And (b :: rest) pos) ρ (En q)) : DE X W (.BoolOp .And (a :: b :: rest) pos) ρ (En (p && q)) := by
  cases p with
  | true => exact pe_imp (pe_and ha (hb rfl)) fun σ H Q ⟨G, c, k⟩ => ⟨G, c, fun v G1 H1 g1 r1 => by
      cases r1
      exact ⟨true, rfl, iteT ⟨G1, c.step g1, fun v2 G2 H2 g2 r2 => k v2 G2 H2 (g1.trans g2) r2⟩⟩⟩
  | false => exact pe_imp (pe_and (tb := fun _ _ _ => False) ha ⟨fun _ _ _ _ _ _ z => z.elim⟩) fun σ H Q ⟨G, c, k⟩ => ⟨G, c, fun v G1 H1 g1 r1 => by
      cases r1
      exact ⟨false, rfl, iteF (k _ G1 H1 g1 (.bl false))⟩⟩
theorem de_or (ha : DE X W a ρ (En p)) (hb : p = false → DE X W (.BoolOp .Or (b :: rest) pos) ρ (En q)) : DE X W (.BoolOp .Or (a :: b :: rest) pos) ρ (En (p || q)) := by
  cases p with
  | false => exact pe_imp (pe_or ha (hb rfl)) fun σ H Q ⟨G, c, k⟩ => ⟨G, c, fun v G1 H1 g1 r1 => by
      cases r1
      exact ⟨false, rfl, iteF ⟨G1, c.step g1, fun v2 G2 H2 g2 r2 => k v2 G2 H2 (g1.trans g2) r2⟩⟩⟩
  | true => exact pe_imp (pe_or (tb := fun _ _ _ => False) ha ⟨fun _ _ _ _ _ _ z => z.elim⟩) fun σ H Q ⟨G, c, k⟩ => ⟨G, c, fun v G1 H1 g1 r1 => by
      cases r1
      exact ⟨true, rfl, iteT (k _ G1 H1 g1 (.bl true))⟩⟩
theorem de_not (ha : DE X W a ρ (En p)) : DE X W (.UnaryOp .Not a pos) ρ (En (!p)) := pe_imp (pe_not ha) fun σ H Q ⟨G, c, k⟩ => ⟨G, c, fun v G1 H1 g1 r1 => by
  cases r1
  exact ⟨p, rfl, k _ G1 H1 g1 (.bl _)⟩⟩
theorem de_if (hc : DT X W c ρ p) (ha : p = true → DE X W a ρ s) (hb : p = false → DE X W b ρ s) : DE X W (.IfExp c a b pos) ρ s := by
  cases p with
  | true => exact pe_imp (pe_ifExp (tb := fun _ _ _ => False) hc (ha rfl) ⟨fun _ _ _ _ _ _ z => z.elim⟩) fun σ H Q ⟨G, c, k⟩ => ⟨G, c, fun G1 H1 g1 => iteT ⟨G1, c.step g1, fun v2 G2 H2 g2 r2 => k v2 G2 H2 (g1.trans g2) r2⟩⟩
  | false => exact pe_imp (pe_ifExp (ta := fun _ _ _ => False) hc ⟨fun _ _ _ _ _ _ z => z.elim⟩ (hb rfl)) fun σ H Q ⟨G, c, k⟩ => ⟨G, c, fun G1 H1 g1 => iteF ⟨G1, c.step g1, fun v2 G2 H2 g2 r2 => k v2 G2 H2 (g1.trans g2) r2⟩⟩
/-- a < b < c: k the first answer -/
theorem de_chain {op op' : CmpOp} {r r' : R2} {sc : Sl} {k l : Bool} (ho : OpR X (compareOp op) r) (ho' : OpR X (compareOp op') r') (ha : DE X W a ρ sa) (hb : DE X W b ρ sb) (hc : DE X W c ρ sc)
    (hr : RV W r sa sb (En k)) (hr' : k = true → RV W r' sb sc (En l)) (h : PE X e (tChain r r' (tD W ρ sa) (tD W ρ sb) (tD W ρ sc))) : DE X W e ρ (En (k && l)) := pe_imp h fun σ H Q ⟨G, c, q⟩ =>
  ⟨G, c, fun x G1 H1 g1 r1 => ⟨G1, c.step g1, fun y G2 H2 g2 r2 => hr G2 H2 x y _ g2.i ((c.step g1).step g2).w (r1.mono g2.g) r2 fun v G3 H3 g3 r3 => by
    cases r3
    refine ⟨k, rfl, ?_⟩
    cases k with
    | true =>
      rw [if_pos rfl]
      exact ⟨G3, ((c.step g1).step g2).step g3, fun z G4 H4 g4 r4 => hr' rfl G4 H4 y z _ g4.i ((((c.step g1).step g2).step g3).step g4).w ((r2.mono g3.g).mono g4.g) r4 fun v G5 H5 g5 r5 =>
        q v G5 H5 ((((g1.trans g2).trans g3).trans g4).trans g5) r5⟩
    | false =>
      rw [if_neg Bool.false_ne_true]
      exact q _ G3 H3 ((g1.trans g2).trans g3) (.bl false)⟩⟩
theorem de_le_le {i j k : Int} (ha : DE X W a ρ (En i)) (hb : DE X W b ρ (En j)) (hc : DE X W c ρ (En k)) (hm : lastMarks [.LtE, .LtE] [b, c] = false := by with_unfolding_all rfl) : DE X W (.Compare a [.LtE, .LtE] [b, c] pos) ρ (En (decide (i ≤ j) && decide (j ≤ k))) :=
  de_chain op_le op_le ha hb hc (rv_I0 fun _ => .bl _) (fun _ => rv_I0 fun _ => .bl _) (pe_chain op_le op_le ha hb hc hm)

/-! ### displays and argument lists -/
variable {es : List Expr} {ss : List Sl}
theorem da_nil : DA X W [] ρ [] := pa_imp pa_nil fun σ H Q ⟨G, c, k⟩ => k [] G H (.refl c.s) .nil
theorem da_cons (ha : DE X W e ρ s) (hr : DA X W es ρ ss) (hs : starEach (e :: es) X.env = (false, eval e X.env) :: starEach es X.env := by rfl) : DA X W (e :: es) ρ (s :: ss) :=
  pa_imp (pa_cons ha hr hs) fun σ H Q ⟨G, c, k⟩ => ⟨G, c, fun v G1 H1 g1 r1 => ⟨G1, c.step g1, fun vs G2 H2 g2 r2 => k (v :: vs) G2 H2 (g1.trans g2) (.cons (r1.mono g2.g) r2)⟩⟩
/-- all of them data -/
inductive DatL : List Sl → List PyData → Prop
  | nil : DatL [] []
  | cons {d : PyData} {ss : List Sl} {ds : List PyData} : DatL ss ds → DatL (.d d :: ss) (d :: ds)
theorem RepL.data {G : Hp} : ∀ {vs : List V} {ss : List Sl} {ds : List PyData}, RepL G vs ss → DatL ss ds → RpAll G vs ds
  | _, _, _, .nil, .nil => .nil
  | _, _, _, .cons h t, .cons k => .cons h (t.data k)
theorem dn_lst {ds : List PyData} (h : DA X W es ρ ss) (hd : DatL ss ds) (hl : ds.length ≤ 1000 := by first | exact Nat.zero_le _ | decide | (simp; done)) : DN X W (.List es pos) ρ ds :=
  pe_imp (pe_lst h) fun σ H Q ⟨G, c, q⟩ => ⟨G, c, fun vs G1 H1 g1 r1 => ⟨by
    have h1 := (r1.data hd).length
    rw [h1]
    exact Nat.le_trans hl (by decide), fun p hp => q p vs G1 (upd H1 p (.lst vs)) (g1.trans (.heap g1.i (same_upd hp))) (g1.h.free hp) (g1.i.free hp) upd_same (r1.data hd)⟩⟩
theorem de_tupL {ds : List PyData} {k : Nat} (h : DA X W es ρ ss) (hd : DatL ss ds) (hl : ds.length ≤ 1000 := by first | exact Nat.zero_le _ | decide | (simp; done)) : DE X W (.Tuple es k pos) ρ (.d (.tuple ds)) :=
  pe_imp (pe_tup h) fun σ H Q ⟨G, c, q⟩ => ⟨G, c, fun vs G1 H1 g1 r1 => ⟨by
    have h1 := (r1.data hd).length
    rw [h1]
    exact Nat.le_trans hl (by decide), fun p hp => q (.ref p) (upd G1 p (.tup vs)) (upd H1 p (.tup vs)) (g1.trans (Gw.new g1.i hp)) (.tup upd_same (rpAll_mono (same_upd (g1.i.free hp)) _ _ (r1.data hd)))⟩⟩
section
variable {α β γ : Type} [DecidableEq α] [Datum α] [DecidableEq β] [Datum β] [DecidableEq γ] [Datum γ] {x : α} {y : β} {z : γ} {e1 e2 e3 : Expr} {k : Nat}
theorem de_pair (h1 : DE X W e1 ρ (En x)) (h2 : DE X W e2 ρ (En y)) (hs : starEach [e1, e2] X.env = (false, eval e1 X.env) :: starEach [e2] X.env := by rfl) (hs2 : starEach [e2] X.env = (false, eval e2 X.env) :: starEach [] X.env := by rfl) :
    DE X W (.Tuple [e1, e2] k pos) ρ (En (x, y)) := de_tupL (da_cons h1 (da_cons h2 da_nil hs2) hs) (.cons (.cons .nil))
theorem de_t3 (h1 : DE X W e1 ρ (En x)) (h2 : DE X W e2 ρ (En y)) (h3 : DE X W e3 ρ (En z)) (hs : starEach [e1, e2, e3] X.env = (false, eval e1 X.env) :: starEach [e2, e3] X.env := by rfl)
    (hs2 : starEach [e2, e3] X.env = (false, eval e2 X.env) :: starEach [e3] X.env := by rfl) (hs3 : starEach [e3] X.env = (false, eval e3 X.env) :: starEach [] X.env := by rfl) :
    DE X W (.Tuple [e1, e2, e3] k pos) ρ (En (T3.mk x y z)) := de_tupL (da_cons h1 (da_cons h2 (da_cons h3 da_nil hs3) hs2) hs) (.cons (.cons (.cons .nil)))
end

/-! ### calls of built-ins -/
variable {id T f : String} {r : List V → Hp → VK → Prop} {fp : Pos}
def RCs (W : Res) (r : List V → Hp → VK → Prop) (ss : List Sl) (s : Sl) : Prop := ∀ (G H : Hp) (vs : List V) (Q : VK), Same G H → W.p G H → RepL G vs ss → (∀ v G' H', Gw G H G' H' → RepS G' v s → Q v H') → r vs H Q
theorem de_tCB (h : PE X e (tCB r (tA W ρ ss))) (hr : RCs W r ss s) : DE X W e ρ s := pe_imp h fun σ H Q ⟨G, c, k⟩ =>
  ⟨G, c, fun vs G1 H1 g1 r1 => hr G1 H1 vs Q g1.i (c.step g1).w r1 fun v G2 H2 g2 r2 => k v G2 H2 (g1.trans g2) r2⟩
/-- r on a list that is read -/
def RS1 (W : Res) (r : List V → Hp → VK → Prop) (ds : List PyData) (s : Sl) : Prop := ∀ (G H : Hp) (p : Addr) (xs : List V) (Q : VK), Same G H → W.p G H → Rd H p (.lst xs) → RpAll G xs ds → (∀ v G' H', Gw G H G' H' → RepS G' v s → Q v H') → r [.ref p] H Q
def RS1N (W : Res) (r : List V → Hp → VK → Prop) (ds es : List PyData) : Prop := ∀ (G H : Hp) (p : Addr) (xs : List V) (Q : VK), Same G H → W.p G H → Rd H p (.lst xs) → RpAll G xs ds →
  (∀ l ys G' H', Gw G H G' H' → H l = none → G' l = none → H' l = some (.lst ys) → RpAll G' ys es → Q (.ref l) H') → r [.ref p] H Q
theorem de_tCS {ds : List PyData} (h : PE X e (tCB r (tCons (tS W ρ ds) tNil))) (hr : RS1 W r ds s) : DE X W e ρ s := pe_imp h fun σ H Q ⟨G, c, k⟩ =>
  ⟨G, c, fun p xs G1 H1 g1 h1 r1 => hr G1 H1 p xs Q g1.i (c.step g1).w h1 r1 fun v G2 H2 g2 r2 => k v G2 H2 (g1.trans g2) r2⟩
theorem dn_tCS {ds es : List PyData} (h : PE X e (tCB r (tCons (tS W ρ ds) tNil))) (hr : RS1N W r ds es) : DN X W e ρ es := pe_imp h fun σ H Q ⟨G, c, k⟩ =>
  ⟨G, c, fun p xs G1 H1 g1 h1 r1 => hr G1 H1 p xs Q g1.i (c.step g1).w h1 r1 fun l ys G2 H2 g2 h2 h3 h4 r2 => k l ys G2 H2 (g1.trans g2) (g1.h.free h2) h3 h4 r2⟩
/-- an argument list without stars -/
structure SA1 (X : Cx) (a : Expr) (pos : Pos) : Prop where
  h : starEach [a] X.env = (false, eval a X.env) :: starEach [] X.env
  b : (backTo pos (starEach [] X.env)).any (·.1) = false
structure SA2 (X : Cx) (a b : Expr) (pos : Pos) : Prop where
  h : starEach [a, b] X.env = (false, eval a X.env) :: starEach [b] X.env
  h2 : starEach [b] X.env = (false, eval b X.env) :: starEach [] X.env
  b : (backTo pos (starEach [b] X.env)).any (·.1) = false
theorem de_len {ds : List PyData} (hm : X.mg "len" = none) (ha : DS X W a ρ ds) (hg : Gl X "len" := by rfl) (sa : SA1 X a pos := by exact ⟨rfl, rfl⟩) :
    DE X W (.Call (.Name "len" fp) [a] [] pos) ρ (En (ds.length : Int)) := de_tCS (pe_callB call_len_seq hg hm PySem.boot_len (pa_cons ha pa_nil sa.h) (he := sa.h) (hpl := sa.b)) fun G H p xs Q hs hw h1 r1 k => ⟨p, xs, rfl, .inl (.inl h1), by
      rw [r1.length]
      exact k _ G H (.refl hs) (.int _)⟩
theorem de_lenT {ds : List PyData} (hm : X.mg "len" = none) (ha : DE X W a ρ (.d (.tuple ds))) (hg : Gl X "len" := by rfl) (sa : SA1 X a pos := by exact ⟨rfl, rfl⟩) :
    DE X W (.Call (.Name "len" fp) [a] [] pos) ρ (En (ds.length : Int)) := de_tCB (pe_callB call_len_seq hg hm PySem.boot_len (da_cons ha da_nil sa.h) (he := sa.h) (hpl := sa.b)) fun G H vs Q hs hw r k => by
      cases r with
      | cons h t =>
        cases t
        cases h with
        | tup h1 h2 => exact ⟨_, _, rfl, .inr (.inl (.inl (hs _ _ h1))), by
            rw [h2.length]
            exact k _ G H (.refl hs) (.int _)⟩
/-- max(i, j), min(i, j) of whole numbers -/
def imax (i j : Int) : Int := if j > i then j else i
def imin (i j : Int) : Int := if j < i then j else i
theorem de_max2 {i j : Int} (hm : X.mg "max" = none) (hc : X.calm = true) (ha : DE X W a ρ (En i)) (hb : DE X W b ρ (En j)) (hg : Gl X "max" := by rfl) (sa : SA2 X a b pos := by exact ⟨rfl, rfl, rfl⟩) : DE X W (.Call (.Name "max" fp) [a, b] [] pos) ρ (En (imax i j)) :=
  de_tCB (pe_callB (call_max2 hc) hg hm (by decide +kernel) (da_cons ha (da_cons hb da_nil sa.h2) sa.h) (he := sa.h) (hpl := sa.b)) fun G H vs Q hs hw r k => by
    cases r with
    | cons h t =>
      cases t with
      | cons h2 t =>
        cases t
        cases h
        cases h2
        exact ⟨i, j, rfl, k _ G H (.refl hs) (.int _)⟩
theorem de_min2 {i j : Int} (hm : X.mg "min" = none) (hc : X.calm = true) (ha : DE X W a ρ (En i)) (hb : DE X W b ρ (En j)) (hg : Gl X "min" := by rfl) (sa : SA2 X a b pos := by exact ⟨rfl, rfl, rfl⟩) : DE X W (.Call (.Name "min" fp) [a, b] [] pos) ρ (En (imin i j)) :=
  de_tCB (pe_callB (call_min2 hc) hg hm (by decide +kernel) (da_cons ha (da_cons hb da_nil sa.h2) sa.h) (he := sa.h) (hpl := sa.b)) fun G H vs Q hs hw r k => by
    cases r with
    | cons h t =>
      cases t with
      | cons h2 t =>
        cases t
        cases h
        cases h2
        exact ⟨i, j, rfl, k _ G H (.refl hs) (.int _)⟩
/-- int(a truth value) -/
def b2n (k : Bool) : Int := if k then 1 else 0
theorem de_intb {k : Bool} (hm : X.mg "int" = none) (ha : DE X W a ρ (En k)) (hg : Gl X "int" := by rfl) (sa : SA1 X a pos := by exact ⟨rfl, rfl⟩) : DE X W (.Call (.Name "int" fp) [a] [] pos) ρ (En (b2n k)) :=
  de_tCB (pe_callTy call_int1 hg hm (by decide +kernel) (da_cons ha da_nil sa.h) (he := sa.h) (hpl := sa.b)) fun G H vs Q hs hw r q => by
    cases r with
    | cons h t =>
      cases t
      cases h
      exact .inr ⟨k, rfl, q _ G H (.refl hs) (.int _)⟩
/-- list(xs) -/
theorem dn_list {ds : List PyData} (hm : X.mg "list" = none) (ha : DS X W a ρ ds) (hg : Gl X "list" := by rfl) (sa : SA1 X a pos := by exact ⟨rfl, rfl⟩) : DN X W (.Call (.Name "list" fp) [a] [] pos) ρ ds :=
  dn_tCS (pe_callTy call_list_of hg hm (by decide +kernel) (pa_cons ha pa_nil sa.h) (he := sa.h) (hpl := sa.b)) fun G H p xs Q hs hw h1 r1 k => ⟨p, xs, rfl, .inl (.inl h1), fun l hl => k l xs G _ (.heap hs (same_upd hl)) hl (hs.free hl) upd_same r1⟩
/-- all([..]) -/
theorem rp_bools {G : Hp} : ∀ {xs : List V} {bs : List Bool}, RpAll G xs (bs.map PyData.bool) → xs = bs.map V.bl
  | _, [], h => by
    have h' : RpAll G _ [] := h
    cases h'
    rfl
  | _, b :: bs, h => by
    have h' : RpAll G _ (.bool b :: bs.map PyData.bool) := h
    cases h' with
    | cons h1 h2 =>
      cases h1
      rw [rp_bools h2]
      rfl
theorem rp_ints {G : Hp} : ∀ {xs : List V} {ns : List Int}, RpAll G xs (ns.map PyData.int) → xs = ns.map V.int
  | _, [], h => by
    have h' : RpAll G _ [] := h
    cases h'
    rfl
  | _, b :: bs, h => by
    have h' : RpAll G _ (.int b :: bs.map PyData.int) := h
    cases h' with
    | cons h1 h2 =>
      cases h1
      rw [rp_ints h2]
      rfl
theorem de_all {bs : List Bool} (hm : X.mg "all" = none) (hc : X.calm = true) (ha : DS X W a ρ (bs.map Datum.toD)) (hg : Gl X "all" := by rfl) (sa : SA1 X a pos := by exact ⟨rfl, rfl⟩) :
    DE X W (.Call (.Name "all" fp) [a] [] pos) ρ (En (bs.all fun b => b)) :=
  de_tCS (pe_callB (cr_all hc) hg hm (by decide +kernel) (pa_cons ha pa_nil sa.h) (he := sa.h) (hpl := sa.b)) fun G H p xs Q hs hw h1 r1 k => by
    have e := rp_bools r1
    subst e
    exact ⟨p, bs, rfl, .inl h1, k _ G H (.refl hs) (.bl _)⟩

/-! ### isinstance -/
def tyD : PyData → String
  | .none => "NoneType"
  | .bool _ => "bool"
  | .int _ => "int"
  | .str _ => "str"
  | .list _ => "list"
  | .tuple _ => "tuple"
  | .dict _ => "dict"
theorem tyx_of {K : PySem.W.Frag} {G : Hp} : ∀ {v : V} {d : PyData}, Rp G v d → TyX K G v (.type (tyD d))
  | _, _, .non => .base .non
  | _, _, .bl b => .base (.bl b)
  | _, _, .int i => .base (.int i)
  | _, _, .str x => .base (.str x)
  | _, _, .lst h _ => by
    rcases h with h | ⟨o, h⟩
    · exact .base (.lst h)
    · exact .base (.frz h)
  | _, _, .tup h _ => .base (.tup h)
  | _, _, .dic h => .base (.dT h)
theorem TyX.mono {K : PySem.W.Frag} {G H : Hp} (e : Same G H) {v : V} {d : PyData} (h : Rp G v d) : TyX K H v (.type (tyD d)) := tyx_of (rp_mono e d v h)
theorem de_isi {T : String} {x : Str} {d : PyData} {k : Bool} {tp : Pos} (hm : X.mg "isinstance" = none) (ha : DE X W a ρ (.d d)) (ht : PE X (.Name x tp) (tC (.ty T))) (hk : kitB (tyD d) T = some k) (hg : Gl X "isinstance" := by rfl)
    (sa : SA2 X a (.Name x tp) pos := by exact ⟨rfl, rfl, rfl⟩) :
    DE X W (.Call (.Name "isinstance" fp) [a, .Name x tp] [] pos) ρ (En k) :=
  de_tCB (pe_callB call_isi hg hm (by decide +kernel) (da_cons ha (da_cons (de_cst (s := .v (.ty T)) ht fun _ => rfl) da_nil sa.h2) sa.h) (he := sa.h) (hpl := sa.b)) fun G H vs Q hs hw r q => by
    cases r with
    | cons h t =>
      cases t with
      | cons h2 t =>
        cases t
        have e : _ = V.ty T := h2
        subst e
        exact ⟨_, .ty T, .type (tyD d), .type T, k, rfl, .ty T, TyX.mono hs h, kit_ty hk, q _ G H (.refl hs) (.bl _)⟩

/-! ### places -/
theorem RpAll.atI {G : Hp} {vs : List V} {ds : List PyData} (h : RpAll G vs ds) {i : Int} {d : PyData} (e : atI ds i = some d) : ∃ v, L2.atI vs i = some v ∧ Rp G v d := by
  unfold L2.atI at e ⊢
  rw [h.length]
  cases q : ixN ds.length i with
  | none =>
    rw [q] at e
    cases e
  | some j =>
    rw [q] at e
    exact h.get e
theorem de_ixL {ds : List PyData} {i : Int} {d : PyData} (ha : DS X W a ρ ds) (hb : DE X W b ρ (En i)) (h : atI ds i = some d) (hs : PlainIx b := by intro _ _; rfl) : DE X W (.Subscript a b pos) ρ (.d d) :=
  pe_imp (pe_ix ix_list ha hb hs) fun σ H Q ⟨G, c, k⟩ => ⟨G, c, fun p xs G1 H1 g1 h1 r1 => ⟨G1, c.step g1, fun y G2 H2 g2 r2 => by
    cases r2
    obtain ⟨v, hv, rv⟩ := (rpAll_mono g2.g _ _ r1).atI h
    exact ⟨p, xs, i, v, rfl, rfl, .inl (rd_mono g2.h h1), hv, k v G2 H2 (g1.trans g2) rv⟩⟩⟩
theorem de_ixT {ds : List PyData} {i : Int} {d : PyData} (ha : DE X W a ρ (.d (.tuple ds))) (hb : DE X W b ρ (En i)) (h : atI ds i = some d) (hs : PlainIx b := by intro _ _; rfl) : DE X W (.Subscript a b pos) ρ (.d d) :=
  de_tOp (pe_ix ix_tup ha hb hs) fun G H x y Q hs hw r1 r2 k => by
    cases r2
    cases r1 with
    | tup h1 h2 =>
      obtain ⟨v, hv, rv⟩ := h2.atI h
      exact ⟨_, _, i, v, rfl, rfl, .inl (.inl (hs _ _ h1)), hv, k v G H (.refl hs) rv⟩
/-- the item at i, a default beyond -/
def ixD {α : Type} [Inhabited α] (xs : List α) (i : Int) : α := (atI xs i).getD default
theorem atI_map {α β : Type} (f : α → β) (xs : List α) (i : Int) : atI (xs.map f) i = (atI xs i).map f := by
  unfold L2.atI
  rw [List.length_map]
  cases ixN xs.length i with
  | none => rfl
  | some j => simp
theorem atI_ixD {α : Type} [Inhabited α] {xs : List α} {i : Int} (h : -(xs.length : Int) ≤ i ∧ i < xs.length) : atI xs i = some (ixD xs i) := by
  unfold ixD
  cases q : atI xs i with
  | some x => rfl
  | none =>
    exfalso
    unfold L2.atI ixN at q
    by_cases h0 : 0 ≤ i
    · rw [if_pos h0, if_pos h.2] at q
      have : i.toNat < xs.length := by omega
      simp [List.getElem?_eq_getElem this] at q
    · rw [if_neg h0, if_pos h.1] at q
      have : (i + xs.length).toNat < xs.length := by omega
      simp [List.getElem?_eq_getElem this] at q
section
variable {α β γ : Type} [DecidableEq α] [Datum α] [DecidableEq β] [Datum β] [DecidableEq γ] [Datum γ]
theorem de_ix [Inhabited α] {xs : List α} {i : Int} (ha : DS X W a ρ (xs.map Datum.toD)) (hb : DE X W b ρ (En i)) (h : -(xs.length : Int) ≤ i ∧ i < xs.length) (hs : PlainIx b := by intro _ _; rfl) : DE X W (.Subscript a b pos) ρ (En (ixD xs i)) :=
  de_ixL ha hb (by rw [atI_map, atI_ixD h]; rfl) hs
theorem de_fst {p : α × β} (ha : DE X W a ρ (En p)) (hb : DE X W b ρ (En (0 : Int))) (hs : PlainIx b := by intro _ _; rfl) : DE X W (.Subscript a b pos) ρ (En p.1) := de_ixT ha hb rfl hs
theorem de_snd {p : α × β} (ha : DE X W a ρ (En p)) (hb : DE X W b ρ (En (1 : Int))) (hs : PlainIx b := by intro _ _; rfl) : DE X W (.Subscript a b pos) ρ (En p.2) := de_ixT ha hb rfl hs
theorem de_t3a {p : T3 α β γ} (ha : DE X W a ρ (En p)) (hb : DE X W b ρ (En (0 : Int))) (hs : PlainIx b := by intro _ _; rfl) : DE X W (.Subscript a b pos) ρ (En p.a) := de_ixT ha hb rfl hs
theorem de_t3b {p : T3 α β γ} (ha : DE X W a ρ (En p)) (hb : DE X W b ρ (En (1 : Int))) (hs : PlainIx b := by intro _ _; rfl) : DE X W (.Subscript a b pos) ρ (En p.b) := de_ixT ha hb rfl hs
theorem de_t3c {p : T3 α β γ} (ha : DE X W a ρ (En p)) (hb : DE X W b ρ (En (2 : Int))) (hs : PlainIx b := by intro _ _; rfl) : DE X W (.Subscript a b pos) ρ (En p.c) := de_ixT ha hb rfl hs
theorem de_ixTp [Inhabited α] {t : Tup α} {i : Int} (ha : DE X W a ρ (En t)) (hb : DE X W b ρ (En i)) (h : -(t.items.length : Int) ≤ i ∧ i < t.items.length) (hs : PlainIx b := by intro _ _; rfl) : DE X W (.Subscript a b pos) ρ (En (ixD t.items i)) :=
  de_ixT ha hb (by rw [atI_map, atI_ixD h]; rfl) hs
end
end
end DL

/-! DL3: sums, slices of lists, in, least and greatest, sorted, what is walked, comprehensions. -/
namespace DL
open PySem PySem.Spec L2
open PyProof.Rows hiding St
open PySem.W (Datum DatumOrd Tup T3 Holds HoldAll)
section
variable {X : Cx} {W : Res} {ρ : Ro} {pos : Pos} {e a b c : Expr} {rest : List Expr} {s sa sb : Sl}

/-! ### lists put together -/
def rCatR : R2 := fun x y H Q => ∃ l b xs zs, x = .ref l ∧ y = .ref b ∧ Rd H l (.lst xs) ∧ Rd H b (.lst zs) ∧ xs.length + zs.length ≤ sizeLine ∧ ∀ p, H p = none → Q (.ref p) (upd H p (.lst (xs ++ zs)))
theorem op_catR : OpR X (binaryOp .Add) rCatR := by
  intro pins s σ H x y v u Q I rx ry h
  obtain ⟨l, b, xs, zs, rfl, rfl, hH, hB, hz, q⟩ := h
  cases rx
  cases ry
  obtain ⟨z, its, n, r, hl, e⟩ := rd_list I hH
  obtain ⟨z2, its2, n2, r2, hl2, e2⟩ := rd_list I hB
  refine PySem.P.add_list e e2 ?_ (by rw [List.size_toArray, List.size_toArray]; omega)
  have ea : its.toArray ++ its2.toArray = (its ++ its2).toArray := by simp
  rw [ea]
  exact ⟨.ref _, _, I.lnew (t' := s.toks) (r.append r2) (by rw [List.length_append]; omega), rfl, q _ I.fresh⟩
theorem dn_cat {ds es : List PyData} (ha : DS X W a ρ ds) (hb : DS X W b ρ es) (hl : ds.length + es.length ≤ sizeLine) : DN X W (.BinOp a .Add b pos) ρ (ds ++ es) :=
  pe_imp (pe_op op_catR ha hb) fun σ H Q ⟨G, c, k⟩ => ⟨G, c, fun p xs G1 H1 g1 h1 r1 => ⟨G1, c.step g1, fun q ys G2 H2 g2 h2 r2 =>
    ⟨p, q, xs, ys, rfl, rfl, rd_mono g2.h h1, h2, by rw [r1.length, r2.length]; exact hl, fun l hl => k l _ G2 _ ((g1.trans g2).trans (.heap g2.i (same_upd hl))) ((g1.trans g2).h.free hl) (g2.i.free hl) upd_same ((rpAll_mono g2.g _ _ r1).append r2)⟩⟩⟩
/-- xs * k -/
theorem dn_rep {ds : List PyData} {i : Int} (ha : DN X W a ρ ds) (hb : DE X W b ρ (En i)) (hi : -(2 ^ 63) ≤ i ∧ i < 2 ^ 63) (hl : ds.length * i.toNat ≤ sizeLine) : DN X W (.BinOp a .Mult b pos) ρ (List.replicate i.toNat ds).flatten :=
  pe_imp (pe_op op_rep ha hb) fun σ H Q ⟨G, c, k⟩ => ⟨G, c, fun p xs G1 H1 g1 h0 h1 h2 r1 => ⟨G1, c.step g1, fun y G2 H2 g2 r2 => by
    cases r2
    exact ⟨p, i, xs, rfl, rfl, g2.h p _ h2, hi.1, hi.2, by rw [r1.length]; exact hl, fun l hl => k l _ G2 _ ((g1.trans g2).trans (.heap g2.i (same_upd hl))) ((g1.trans g2).h.free hl) (g2.i.free hl) upd_same ((rpAll_mono g2.g _ _ r1).rep _)⟩⟩⟩
/-- xs[lo:hi] -/
def tPo (W : Res) (ρ : Ro) (o : Option Int) : TO := fun σ H Q => ∃ G, Cxt W ρ G σ H ∧ ∀ G' H', Gw G H G' H' → Q o H'
abbrev DO (X : Cx) (W : Res) (e : Option Expr) (ρ : Ro) (o : Option Int) : Prop := PO X e (tPo W ρ o)
theorem do_no : DO X W none ρ none := ⟨fun pins s σ H Q I ⟨G, c, k⟩ => po_none.run pins s σ H Q I (k G H (.refl c.s))⟩
theorem do_so {i : Int} (h : DE X W e ρ (En i)) : DO X W (some e) ρ (some i) := ⟨fun pins s σ H Q I ⟨G, c, k⟩ => (po_some h).run pins s σ H Q I ⟨G, c, fun v G1 H1 g1 r1 => by
  cases r1
  exact ⟨i, rfl, k G1 H1 g1⟩⟩⟩
def cutL {α : Type} (xs : List α) (lo hi : Option Int) : List α := (xs.drop (HT.sIx xs.length 0 lo)).take (HT.sIx xs.length xs.length hi - HT.sIx xs.length 0 lo)
theorem cutL_map {α β : Type} (f : α → β) (xs : List α) (lo hi : Option Int) : cutL (xs.map f) lo hi = (cutL xs lo hi).map f := by
  unfold cutL
  rw [List.length_map, List.map_take, List.map_drop]
theorem RpAll.cut {G : Hp} {vs : List V} {ds : List PyData} (h : RpAll G vs ds) (lo hi : Option Int) : RpAll G (cutV vs lo hi) (cutL ds lo hi) := by
  unfold cutV cutL
  rw [h.length]
  exact (h.drop _).take _
theorem dn_sl {ds : List PyData} {lo hi : Option Expr} {l u : Option Int} {p2 : Pos} (ha : DS X W a ρ ds) (hl : DO X W lo ρ l) (hu : DO X W hi ρ u) : DN X W (.Subscript a (.Slice lo hi none p2) pos) ρ (cutL ds l u) :=
  pe_imp (pe_slice sl_list ha hl hu) fun σ H Q ⟨G, c, k⟩ => ⟨G, c, fun p xs G1 H1 g1 h1 r1 => ⟨G1, c.step g1, fun G2 H2 g2 => ⟨G2, (c.step g1).step g2, fun G3 H3 g3 =>
    ⟨p, xs, rfl, .inl (rd_mono (g2.trans g3).h h1), fun l hl => k l _ G3 _ (((g1.trans g2).trans g3).trans (.heap g3.i (same_upd hl))) (((g1.trans g2).trans g3).h.free hl) (g3.i.free hl) upd_same ((rpAll_mono (g2.trans g3).g _ _ r1).cut _ _)⟩⟩⟩⟩

/-! ### in, not in -/
section
variable {α : Type} [DecidableEq α] [Datum α] {x : α} {xs : List α} {k : Nat}
theorem rp_holdAll {pins : List (Addr × Obj)} {σ : St} {G H : Hp} {st : Shared} (I : Inv X pins σ H st) (hs : Same G H) {vs : List V} {us : List Value} {l : List α} (r : RpAll G vs (l.map Datum.toD)) (rv : Vals vs us) : HoldAll st.heap us l := rpAll_reads I _ _ _ (rpAll_mono hs _ _ r) rv
/-- x among xs, as a truth value -/
def memB {α : Type} [DecidableEq α] (x : α) (xs : List α) : Bool := decide (x ∈ xs)
theorem memB_true {α : Type} [DecidableEq α] {x : α} {xs : List α} : memB x xs = true ↔ x ∈ xs := by
  unfold memB
  exact decide_eq_true_iff
theorem memB_false {α : Type} [DecidableEq α] {x : α} {xs : List α} : memB x xs = false ↔ x ∉ xs := by
  unfold memB
  exact decide_eq_false_iff_not
theorem niB_eq {α : Type} [DecidableEq α] (x : α) (xs : List α) : decide (x ∉ xs) = !memB x xs := by
  unfold memB
  exact decide_not
def rInS (x : α) (xs : List α) (z : V) : R2 := fun u v H Q => ∃ G p vs, Same G H ∧ RepS G u (En x) ∧ v = .ref p ∧ Rd H p (.lst vs) ∧ RpAll G vs (xs.map Datum.toD) ∧ Q z H
theorem op_inS (hu : X.A.units + 1 + Datum.depth α < cLine) : OpR X (compareOp .In) (rInS x xs (.bl (decide (x ∈ xs)))) := by
  intro pins st σ H u v u' v' Q I ru rv ⟨G, p, vs, hs, r1, e, h1, r2, q⟩
  subst e
  cases rv
  obtain ⟨z, its, n, r, hl, e⟩ := rd_list I h1
  exact PySem.W.in_list_datum (vs := its.toArray) ⟨_, e, rfl, n, rfl⟩ (rp_holdAll I hs r2 r) (rp_holds I hs r1 ru) hu ⟨.bl _, H, I, rfl, q⟩
theorem op_niS (hu : X.A.units + 1 + Datum.depth α < cLine) : OpR X (compareOp .NotIn) (rInS x xs (.bl (decide (x ∉ xs)))) := by
  intro pins st σ H u v u' v' Q I ru rv ⟨G, p, vs, hs, r1, e, h1, r2, q⟩
  subst e
  cases rv
  obtain ⟨z, its, n, r, hl, e⟩ := rd_list I h1
  exact PySem.W.notIn_list_datum (vs := its.toArray) ⟨_, e, rfl, n, rfl⟩ (rp_holdAll I hs r2 r) (rp_holds I hs r1 ru) hu ⟨.bl _, H, I, rfl, q⟩
def rInT (x : α) (xs : List α) (z : V) : R2 := fun u v H Q => ∃ G, Same G H ∧ RepS G u (En x) ∧ RepS G v (.d (.tuple (xs.map Datum.toD))) ∧ Q z H
theorem op_inT (hu : X.A.units + 1 + Datum.depth α < cLine) : OpR X (compareOp .In) (rInT x xs (.bl (decide (x ∈ xs)))) := by
  intro pins st σ H u v u' v' Q I ru rv ⟨G, hs, r1, r2, q⟩
  cases r2 with
  | tup h1 h2 =>
    cases rv
    obtain ⟨its, r, ht, hz⟩ := I.tuple (.inl (.inl (hs _ _ h1)))
    exact PySem.W.in_tuple_datum ht (rp_holdAll I hs h2 r) (rp_holds I hs r1 ru) hu ⟨.bl _, H, I, rfl, q⟩
theorem op_niT (hu : X.A.units + 1 + Datum.depth α < cLine) : OpR X (compareOp .NotIn) (rInT x xs (.bl (decide (x ∉ xs)))) := by
  intro pins st σ H u v u' v' Q I ru rv ⟨G, hs, r1, r2, q⟩
  cases r2 with
  | tup h1 h2 =>
    cases rv
    obtain ⟨its, r, ht, hz⟩ := I.tuple (.inl (.inl (hs _ _ h1)))
    exact PySem.W.notIn_tuple_datum ht (rp_holdAll I hs h2 r) (rp_holds I hs r1 ru) hu ⟨.bl _, H, I, rfl, q⟩
theorem de_opS {r : R2} {z : V} {s : Sl} (h : PE X e (tOp (rInS x xs z) (tD W ρ (En x)) (tS W ρ (xs.map Datum.toD)))) (hz : ∀ G, RepS G z s) : DE X W e ρ s := pe_imp h fun σ H Q ⟨G, c, q⟩ =>
  ⟨G, c, fun u G1 H1 g1 r1 => ⟨G1, c.step g1, fun p vs G2 H2 g2 h2 r2 => ⟨G2, p, vs, g2.i, r1.mono g2.g, rfl, h2, r2, q z G2 H2 (g1.trans g2) (hz G2)⟩⟩⟩
theorem dt_opS {k : Bool} (h : PT X e (tTest (tOp (rInS x xs (.bl k)) (tD W ρ (En x)) (tS W ρ (xs.map Datum.toD))))) : DT X W e ρ k := pt_imp h fun σ H Q ⟨G, c, q⟩ =>
  ⟨G, c, fun u G1 H1 g1 r1 => ⟨G1, c.step g1, fun p vs G2 H2 g2 h2 r2 => ⟨G2, p, vs, g2.i, r1.mono g2.g, rfl, h2, r2, k, rfl, q G2 H2 (g1.trans g2)⟩⟩⟩
theorem u65 {n : Nat} (hr : Room k X.A) (h : n ≤ 62 := by decide) : X.A.units + 1 + n < cLine := by
  have := hr.units
  omega
theorem de_in (hr : Room k X.A) (ha : DE X W a ρ (En x)) (hb : DS X W b ρ (xs.map Datum.toD)) (hd : Datum.depth α ≤ 62 := by decide) (hm : behindInMarks .In b = false := by rfl) : DE X W (.Compare a [.In] [b] pos) ρ (En (memB x xs)) := de_opS (r := rCatR) (pe_cmpR (op_inS (u65 hr hd)) ha hb hm) fun _ => .bl _
theorem de_ni (hr : Room k X.A) (ha : DE X W a ρ (En x)) (hb : DS X W b ρ (xs.map Datum.toD)) (hd : Datum.depth α ≤ 62 := by decide) (hm : behindInMarks .NotIn b = false := by rfl) : DE X W (.Compare a [.NotIn] [b] pos) ρ (En (!memB x xs)) := by
  rw [← niB_eq]
  exact de_opS (r := rCatR) (pe_cmpR (op_niS (u65 hr hd)) ha hb hm) fun _ => .bl _
theorem dt_in (hr : Room k X.A) (ha : DE X W a ρ (En x)) (hb : DS X W b ρ (xs.map Datum.toD)) (hd : Datum.depth α ≤ 62 := by decide) (hm : behindInMarks .In b = false := by rfl) : DT X W (.Compare a [.In] [b] pos) ρ (memB x xs) := dt_opS (pt_cmpR (op_inS (u65 hr hd)) ha hb hm)
theorem dt_ni (hr : Room k X.A) (ha : DE X W a ρ (En x)) (hb : DS X W b ρ (xs.map Datum.toD)) (hd : Datum.depth α ≤ 62 := by decide) (hm : behindInMarks .NotIn b = false := by rfl) : DT X W (.Compare a [.NotIn] [b] pos) ρ (!memB x xs) := by
  rw [← niB_eq]
  exact dt_opS (pt_cmpR (op_niS (u65 hr hd)) ha hb hm)
theorem rv_inT {z : V} {s : Sl} (h : ∀ G, RepS G z s) : RV W (rInT x xs z) (En x) (.d (.tuple (xs.map Datum.toD))) s := fun G H u v Q hs hw r1 r2 k => ⟨G, hs, r1, r2, k z G H (.refl hs) (h G)⟩
theorem de_inT (hr : Room k X.A) (ha : DE X W a ρ (En x)) (hb : DE X W b ρ (.d (.tuple (xs.map Datum.toD)))) (hd : Datum.depth α ≤ 62 := by decide) (hm : behindInMarks .In b = false := by rfl) : DE X W (.Compare a [.In] [b] pos) ρ (En (memB x xs)) := de_cmp (op_inT (u65 hr hd)) ha hb (rv_inT fun _ => .bl _) hm
theorem de_niT (hr : Room k X.A) (ha : DE X W a ρ (En x)) (hb : DE X W b ρ (.d (.tuple (xs.map Datum.toD)))) (hd : Datum.depth α ≤ 62 := by decide) (hm : behindInMarks .NotIn b = false := by rfl) : DE X W (.Compare a [.NotIn] [b] pos) ρ (En (!memB x xs)) := by
  rw [← niB_eq]
  exact de_cmp (op_niT (u65 hr hd)) ha hb (rv_inT fun _ => .bl _) hm
theorem dt_inT (hr : Room k X.A) (ha : DE X W a ρ (En x)) (hb : DE X W b ρ (.d (.tuple (xs.map Datum.toD)))) (hd : Datum.depth α ≤ 62 := by decide) (hm : behindInMarks .In b = false := by rfl) : DT X W (.Compare a [.In] [b] pos) ρ (memB x xs) := dt_cmp (op_inT (u65 hr hd)) ha hb (rv_inT fun _ => .bl _) hm
theorem dt_niT (hr : Room k X.A) (ha : DE X W a ρ (En x)) (hb : DE X W b ρ (.d (.tuple (xs.map Datum.toD)))) (hd : Datum.depth α ≤ 62 := by decide) (hm : behindInMarks .NotIn b = false := by rfl) : DT X W (.Compare a [.NotIn] [b] pos) ρ (!memB x xs) := by
  rw [← niB_eq]
  exact dt_cmp (op_niT (u65 hr hd)) ha hb (rv_inT fun _ => .bl _) hm
end

/-! ### what a value reads as is one -/
section
variable {pins : List (Addr × Obj)} {σ : St} {H : Hp} {st : Shared}
mutual
theorem rp_one (I : Inv X pins σ H st) : ∀ (d : PyData) (v : V) (u : Value) (e : PyData) (as : List Addr), Rp H v d → RelV v u → Reads st.heap u e as → d = e
  | .none, _, _, e, _, h, r, q => by
    cases h
    cases r
    cases q
    rfl
  | .bool b, _, _, e, _, h, r, q => by
    cases h
    cases r
    cases q
    rfl
  | .int i, _, _, e, _, h, r, q => by
    cases h
    obtain ⟨t, rfl⟩ := r
    cases q
    rfl
  | .str x, _, _, e, _, h, r, q => by
    cases h
    obtain ⟨t, rfl⟩ := r
    cases q
    rfl
  | .list ds, _, _, e, _, h, r, q => by
    cases h with
    | lst hs ha =>
      cases r
      obtain ⟨z, its, n, rv, _, eo⟩ := rd_list I hs
      cases q with
      | list h1 h2 h3 h4 =>
        rw [eo] at h1
        cases h1
        injection h3 with h3 _
        subst h3
        rw [rpAll_one I ds _ its _ _ ha rv h4]
      | tuple h1 h2 h3 h4 =>
        rw [eo] at h1
        cases h1
        exact absurd (Value.type.inj h2) (by decide)
      | dict h1 h2 h3 h4 h5 =>
        rw [eo] at h1
        cases h1
        exact absurd (Value.type.inj h2) (by decide)
  | .tuple ds, _, _, e, _, h, r, q => by
    cases h with
    | tup hs ha =>
      cases r
      obtain ⟨its, rv, ⟨o, ho, hc, n, hd⟩, _⟩ := I.tuple (.inl (.inl hs))
      cases q with
      | list h1 h2 h3 h4 =>
        rw [ho] at h1
        cases h1
        rw [hc] at h2
        exact absurd (Value.type.inj h2) (by decide)
      | tuple h1 h2 h3 h4 =>
        rw [ho] at h1
        cases h1
        rw [hd] at h3
        injection h3 with h3 _
        subst h3
        rw [rpAll_one I ds _ its _ _ ha rv h4]
      | dict h1 h2 h3 h4 h5 =>
        rw [ho] at h1
        cases h1
        rw [hc] at h2
        exact absurd (Value.type.inj h2) (by decide)
  | .dict _, _, _, e, _, h, r, q => by
    cases h with
    | dic hd0 =>
      cases r
      obtain ⟨_, _, xs, pr, o, es, ep, g1, g2, g3, g4, _⟩ := (show ObjOk X.prog X.w H st.heap _ (.dT []) from I.hok _ _ hd0)
      cases pr
      have e0 : es.toList = [] := g4
      cases q with
      | list h1 h2 h3 h4 =>
        rw [g1] at h1
        cases h1
        rw [g2.1] at h2
        exact absurd (Value.type.inj h2) (by decide)
      | tuple h1 h2 h3 h4 =>
        rw [g1] at h1
        cases h1
        rw [g2.1] at h2
        exact absurd (Value.type.inj h2) (by decide)
      | @dict _ _ _ _ kvs _ _ h1 h2 h3 h4 h5 =>
        rw [g1] at h1
        cases h1
        rw [g3] at h3
        cases h3
        rw [e0] at h4
        cases kvs with
        | nil => rfl
        | cons p ps => cases h4
theorem rpAll_one (I : Inv X pins σ H st) : ∀ (ds : List PyData) (vs : List V) (us : List Value) (es : List PyData) (as : List Addr), RpAll H vs ds → Vals vs us → ReadsAll st.heap us es as → ds = es
  | [], _, _, _, _, h, r, q => by
    cases h
    cases r
    cases q
    rfl
  | d :: ds, _, _, _, _, h, r, q => by
    cases h with
    | cons h1 h2 =>
      cases r with
      | cons r1 r2 =>
        cases q with
        | cons q1 q2 => rw [rp_one I d _ _ _ _ h1 r1 q1, rpAll_one I ds _ _ _ _ h2 r2 q2]
end
end

/-! ### least, greatest, sorted -/
section
variable {α : Type} [DecidableEq α] [DatumOrd α] {x : α} {xs : List α} {k : Nat} {fp : Pos}
def rBest (x : α) (xs : List α) (z : α) : List V → Hp → VK → Prop := fun vs H Q => ∃ G p ys, vs = [.ref p] ∧ Same G H ∧ Rd H p (.lst ys) ∧ RpAll G ys ((x :: xs).map Datum.toD) ∧ ∀ v, RepS G v (En z) → Q v H
theorem cr_minD (hc : X.calm = true) (hu : X.A.units + 1 + Datum.depth α < cLine) : CallR X (.builtin "min") (rBest x xs (PySem.W.minOf x xs)) := by
  intro pins st σ H vs us Q I r h
  obtain ⟨G, p, ys, rfl, hs, h1, r1, q⟩ := h
  obtain ⟨u1, rfl, rx⟩ := vals1 r
  cases rx
  obtain ⟨z, its, n, rv, hl, e⟩ := rd_list I h1
  refine PySem.W.min_list_datum (vs := its.toArray) (I.ok.hd hc) ⟨_, e, rfl, n, rfl⟩ (rp_holdAll I hs r1 rv) hu fun i v h' tk hi hh hk => ?_
  have I' : Inv X pins σ H { st with heap := h', toks := tk } := I.kept hk
  have hi' : its[i]? = some v := by simpa using hi
  obtain ⟨hlt, _⟩ := List.getElem?_eq_some_iff.mp hi'
  obtain ⟨y, hy⟩ : ∃ y, ys[i]? = some y := ⟨ys[i]'(by omega), List.getElem?_eq_getElem (by omega)⟩
  obtain ⟨v', hv', rel⟩ := rv.get hy
  rw [hi'] at hv'
  cases hv'
  obtain ⟨d, hd, rd⟩ := r1.get' hy
  obtain ⟨as, hh⟩ := hh
  have e2 := rp_one I' d y v _ _ (rp_mono hs _ _ rd) rel hh
  subst e2
  exact ⟨y, H, I', rel, q y rd⟩
theorem cr_maxD (hc : X.calm = true) (hu : X.A.units + 1 + Datum.depth α < cLine) : CallR X (.builtin "max") (rBest x xs (PySem.W.maxOf x xs)) := by
  intro pins st σ H vs us Q I r h
  obtain ⟨G, p, ys, rfl, hs, h1, r1, q⟩ := h
  obtain ⟨u1, rfl, rx⟩ := vals1 r
  cases rx
  obtain ⟨z, its, n, rv, hl, e⟩ := rd_list I h1
  refine PySem.W.max_list_datum (vs := its.toArray) (I.ok.hd hc) ⟨_, e, rfl, n, rfl⟩ (rp_holdAll I hs r1 rv) hu fun i v h' tk hi hh hk => ?_
  have I' : Inv X pins σ H { st with heap := h', toks := tk } := I.kept hk
  have hi' : its[i]? = some v := by simpa using hi
  obtain ⟨hlt, _⟩ := List.getElem?_eq_some_iff.mp hi'
  obtain ⟨y, hy⟩ : ∃ y, ys[i]? = some y := ⟨ys[i]'(by omega), List.getElem?_eq_getElem (by omega)⟩
  obtain ⟨v', hv', rel⟩ := rv.get hy
  rw [hi'] at hv'
  cases hv'
  obtain ⟨d, hd, rd⟩ := r1.get' hy
  obtain ⟨as, hh⟩ := hh
  have e2 := rp_one I' d y v _ _ (rp_mono hs _ _ rd) rel hh
  subst e2
  exact ⟨y, H, I', rel, q y rd⟩
theorem de_best {z : α} (h : PE X e (tCB (rBest x xs z) (tCons (tS W ρ ((x :: xs).map Datum.toD)) tNil))) : DE X W e ρ (En z) := de_tCS h fun G H p ys Q hs hw h1 r1 k => ⟨G, p, ys, rfl, hs, h1, r1, fun v r => k v G H (.refl hs) r⟩
theorem de_min (hr : Room k X.A) (hc : X.calm = true) (hm : X.mg "min" = none) (ha : DS X W a ρ ((x :: xs).map Datum.toD)) (hd : Datum.depth α ≤ 62 := by decide) (hg : Gl X "min" := by rfl) (sa : SA1 X a pos := by exact ⟨rfl, rfl⟩) :
    DE X W (.Call (.Name "min" fp) [a] [] pos) ρ (En (PySem.W.minOf x xs)) := de_best (pe_callB (cr_minD hc (u65 hr hd)) hg hm (by decide +kernel) (pa_cons ha pa_nil sa.h) (he := sa.h) (hpl := sa.b))
theorem de_max (hr : Room k X.A) (hc : X.calm = true) (hm : X.mg "max" = none) (ha : DS X W a ρ ((x :: xs).map Datum.toD)) (hd : Datum.depth α ≤ 62 := by decide) (hg : Gl X "max" := by rfl) (sa : SA1 X a pos := by exact ⟨rfl, rfl⟩) :
    DE X W (.Call (.Name "max" fp) [a] [] pos) ρ (En (PySem.W.maxOf x xs)) := de_best (pe_callB (cr_maxD hc (u65 hr hd)) hg hm (by decide +kernel) (pa_cons ha pa_nil sa.h) (he := sa.h) (hpl := sa.b))
end
end
end DL

/-! DL4: sorted, what is walked, targets, comprehensions. -/
namespace DL
open PySem PySem.Spec L2
open PyProof.Rows hiding St
open PySem.W (Datum DatumOrd Tup T3 Holds HoldAll EachIs)
section
variable {X : Cx} {W : Res} {ρ : Ro} {pos : Pos} {e a b c : Expr} {rest : List Expr} {s sa sb : Sl}

/-! ### sorted -/
section
variable {α : Type} [DecidableEq α] [DatumOrd α] {xs : List α} {k : Nat} {fp : Pos}
def srt (xs : List α) : List α := xs.mergeSort fun a b => !DatumOrd.lt b a
theorem srt_eq (xs : List α) : xs.mergeSort (PySem.W.dataLe false (Datum.toD : α → PyData)) = srt xs := by
  unfold srt
  congr 1
  funext a b
  show (!PySem.W.dataLt (Datum.toD b) (Datum.toD a)) = !DatumOrd.lt b a
  rw [DatumOrd.lt_eq]
theorem each_of {G : Hp} : ∀ {vs : List V} {us : List Value} {l : List α}, RpAll G vs (l.map Datum.toD) → Vals vs us → EachIs (fun u y => ∃ v, RelV v u ∧ Rp G v (Datum.toD y)) us l
  | _, _, [], h, r => by
    have h' : RpAll G _ [] := h
    cases h'
    cases r
    exact .nil
  | _, _, y :: l, h, r => by
    have h' : RpAll G _ (Datum.toD y :: l.map Datum.toD) := h
    cases h' with
    | cons h1 h2 =>
      cases r with
      | cons r1 r2 => exact .cons ⟨_, r1, h1⟩ (each_of h2 r2)
theorem of_each {G : Hp} : ∀ {us : List Value} {l : List α}, EachIs (fun u y => ∃ v, RelV v u ∧ Rp G v (Datum.toD y)) us l → ∃ vs, Vals vs us ∧ RpAll G vs (l.map Datum.toD)
  | _, _, .nil => ⟨[], .nil, .nil⟩
  | _, _, .cons ⟨v, r, h⟩ t => by
    obtain ⟨vs, r2, h2⟩ := of_each t
    exact ⟨v :: vs, .cons r r2, .cons h h2⟩
def rSrt (xs : List α) : List V → Hp → VK → Prop := fun vs H Q => ∃ G p ys, vs = [.ref p] ∧ Same G H ∧ Rd H p (.lst ys) ∧ RpAll G ys (xs.map Datum.toD) ∧ ∀ l zs, H l = none → RpAll G zs ((srt xs).map Datum.toD) → Q (.ref l) (upd H l (.lst zs))
theorem cr_srt (hso : PySem.W.Sortable (xs.map Datum.toD)) (hu : X.A.units + 2 + Datum.depth α < cLine) : CallR X (.builtin "sorted") (rSrt xs) := by
  intro pins st σ H vs us Q I r h
  obtain ⟨G, p, ys, rfl, hs, h1, r1, q⟩ := h
  obtain ⟨u1, rfl, rx⟩ := vals1 r
  cases rx
  obtain ⟨z, its, n, rv, hl, e⟩ := rd_list I h1
  have el := each_of r1 rv
  have hlen : its.length = xs.length := by rw [← hl, r1.length, List.length_map]
  refine PySem.W.sorted_data (vs := its) (bs := xs) (enc := Datum.toD) ⟨_, e, rfl, n, rfl⟩ el (el.mono fun u y ⟨v, rel, rp⟩ => rp_reads I _ _ _ (rp_mono hs _ _ rp) rel) (.of fun b b' => DatumOrd.alike b b') hso (by rw [← hlen, ← hl]; exact z)
    (fun b _ => by have := Datum.depth_le b; omega) fun out ho he => ?_
  rw [srt_eq] at he
  obtain ⟨zs, rz, hz⟩ := of_each he
  obtain ⟨ep, he'⟩ := PyProof.Rows.sortedAll_at st.heap its (List.toArray out)
  have hzl : zs.length ≤ sizeLine := by
    rw [rz.length, ho, ← hlen, ← hl]
    exact z
  exact ⟨.ref _, upd H (st.heap.objs.size + 1) (.lst zs), I.laid (t' := st.toks) (fun _ _ => PyProof.Rows.sortedAll_old) (Nat.le_succ _) ⟨hzl, out, ep, rz, he'⟩, rfl, q _ zs (I.hok.fresh (Nat.le_succ _)) hz⟩
theorem dn_srt0 (h : PE X e (tCB (rSrt xs) (tCons (tS W ρ (xs.map Datum.toD)) tNil))) : DN X W e ρ ((srt xs).map Datum.toD) := dn_tCS h fun G H p ys Q hs hw h1 r1 k => ⟨G, p, ys, rfl, hs, h1, r1, fun l zs hl hz => k l zs G _ (.heap hs (same_upd hl)) hl (hs.free hl) upd_same hz⟩
theorem u66 {n : Nat} (hr : Room k X.A) (h : n ≤ 61 := by decide) : X.A.units + 2 + n < cLine := by
  have := hr.units
  omega
/-- sorted(xs), the items tuples -/
theorem dn_sortT (hr : Room k X.A) (hm : X.mg "sorted" = none) (ha : DS X W a ρ (xs.map Datum.toD)) (ht : ∀ b : α, ∃ x r, Datum.toD b = .tuple (x :: r) := by exact fun _ => ⟨_, _, rfl⟩) (hd : Datum.depth α ≤ 61 := by decide) (hg : Gl X "sorted" := by rfl) (sa : SA1 X a pos := by exact ⟨rfl, rfl⟩) :
    DN X W (.Call (.Name "sorted" fp) [a] [] pos) ρ ((srt xs).map Datum.toD) := dn_srt0 (pe_callB (cr_srt (.tuples ht) (u66 hr hd)) hg hm (by decide +kernel) (pa_cons ha pa_nil sa.h) (he := sa.h) (hpl := sa.b))
/-- sorted(xs), the items no tuples -/
theorem dn_sortO (hr : Room k X.A) (hm : X.mg "sorted" = none) (ha : DS X W a ρ (xs.map Datum.toD)) (ht : ∀ b : α, Datum.toD b ≠ .none ∧ ∀ xs, Datum.toD b ≠ .tuple xs := by exact fun _ => ⟨(fun z => nomatch z), fun _ z => nomatch z⟩) (hd : Datum.depth α ≤ 61 := by decide) (hg : Gl X "sorted" := by rfl) (sa : SA1 X a pos := by exact ⟨rfl, rfl⟩) :
    DN X W (.Call (.Name "sorted" fp) [a] [] pos) ρ ((srt xs).map Datum.toD) := dn_srt0 (pe_callB (cr_srt (.others ht) (u66 hr hd)) hg hm (by decide +kernel) (pa_cons ha pa_nil sa.h) (he := sa.h) (hpl := sa.b))
end

/-! ### what is walked -/
/-- J yields ss one after another, as long as Z stands in the heap -/
structure Wk (Z G : Hp) (ss : List Sl) (J : It) : Prop where
  len : ss.length ≤ sizeLine
  go : ∀ i H, Same Z H → i < ss.length → J.go i H
  stop : ∀ i H, Same Z H → ss.length ≤ i → J.stop i H
  yld : ∀ i G1 H x H1 s, Same Z H → Same G G1 → Same G1 H → ss[i]? = some s → J.yld i H x H1 → ∃ G2, Gw G1 H G2 H1 ∧ RepS G2 x s
theorem Wk.mono {Z Z' G : Hp} {ss : List Sl} {J : It} (w : Wk Z G ss J) (e : Same Z Z') : Wk Z' G ss J :=
  ⟨w.len, fun i H h => w.go i H (e.trans h), fun i H h => w.stop i H (e.trans h), fun i G1 H x H1 s h => w.yld i G1 H x H1 s (e.trans h)⟩
/-- the source is shared: it stands through a loop's body -/
def tIg (W : Res) (ρ : Ro) (ss : List Sl) : TI := fun σ H R => ∃ G, Cxt W ρ G σ H ∧ ∀ J G' H', Gw G H G' H' → Wk G' G' ss J → R J H'
/-- the source stands as long as nothing is changed -/
def tIh (W : Res) (ρ : Ro) (ss : List Sl) : TI := fun σ H R => ∃ G, Cxt W ρ G σ H ∧ ∀ J G' H', Gw G H G' H' → Wk H' G' ss J → R J H'
abbrev DIg (X : Cx) (W : Res) (tg e : Expr) (ρ : Ro) (ss : List Sl) : Prop := PI X tg e (tIg W ρ ss)
abbrev DIh (X : Cx) (W : Res) (tg e : Expr) (ρ : Ro) (ss : List Sl) : Prop := PI X tg e (tIh W ρ ss)
variable {tg : Expr}
theorem pi_imp {t t' : TI} (h : PI X tg e t) (k : ∀ σ H R, t' σ H R → t σ H R) : PI X tg e t' := ⟨fun pins st σ H R I hq => h.run pins st σ H R I (k σ H R hq)⟩
theorem dih_g {ss : List Sl} (h : DIg X W tg e ρ ss) : DIh X W tg e ρ ss := pi_imp h fun σ H R ⟨G, c, k⟩ => ⟨G, c, fun J G' H' g w => k J G' H' g (w.mono g.i)⟩
def sls (ds : List PyData) : List Sl := ds.map .d
/-- a list's length lies within the line -/
theorem pe_bnd {ds : List PyData} (h : DE X W e ρ (.d (.list ds))) : PE X e (fun σ H Q => ∃ G, Cxt W ρ G σ H ∧ ∀ v G' H', Gw G H G' H' → RepS G' v (.d (.list ds)) → ds.length ≤ sizeLine → Q v H') :=
  ⟨fun pins st σ H Q I ⟨G, c, k⟩ => thn (h.run pins st σ H (fun v H' => ∃ G', Gw G H G' H' ∧ RepS G' v (.d (.list ds))) I ⟨G, c, fun v G' H' g r => ⟨G', g, r⟩⟩) fun u s1 ⟨v, H', I', rel, G', g, r⟩ => by
    refine ⟨v, H', I', rel, k v G' H' g r ?_⟩
    cases r with
    | lst h1 h2 =>
      rw [← h2.length]
      exact (rd_list I' (rd_mono g.i h1)).1⟩
theorem ps_bnd {ds : List PyData} (h : DS X W e ρ ds) : PE X e (fun σ H Q => ∃ G, Cxt W ρ G σ H ∧ ∀ p xs G' H', Gw G H G' H' → Rd H' p (.lst xs) → RpAll G' xs ds → ds.length ≤ sizeLine → Q (.ref p) H') :=
  ⟨fun pins st σ H Q I ⟨G, c, k⟩ => thn (h.run pins st σ H (fun v H' => ∃ p xs G', v = .ref p ∧ Gw G H G' H' ∧ Rd H' p (.lst xs) ∧ RpAll G' xs ds) I ⟨G, c, fun p xs G' H' g h1 h2 => ⟨p, xs, G', rfl, g, h1, h2⟩⟩) fun u s1 ⟨v, H', I', rel, p, xs, G', e, g, h1, h2⟩ => by
    subst e
    exact ⟨_, H', I', rel, k p xs G' H' g h1 h2 (by
      rw [← h2.length]
      exact (rd_list I' h1).1)⟩⟩
theorem pt_bnd {ds : List PyData} (h : DE X W e ρ (.d (.tuple ds))) : PE X e (fun σ H Q => ∃ G, Cxt W ρ G σ H ∧ ∀ v G' H', Gw G H G' H' → RepS G' v (.d (.tuple ds)) → ds.length ≤ sizeLine → Q v H') :=
  ⟨fun pins st σ H Q I ⟨G, c, k⟩ => thn (h.run pins st σ H (fun v H' => ∃ G', Gw G H G' H' ∧ RepS G' v (.d (.tuple ds))) I ⟨G, c, fun v G' H' g r => ⟨G', g, r⟩⟩) fun u s1 ⟨v, H', I', rel, G', g, r⟩ => by
    refine ⟨v, H', I', rel, k v G' H' g r ?_⟩
    cases r with
    | tup h1 h2 =>
      rw [← h2.length]
      obtain ⟨_, _, _, z⟩ := I'.tuple (.inl (.inl (g.i _ _ h1)))
      exact z⟩
theorem dig_list {ds : List PyData} (h : DE X W e ρ (.d (.list ds))) : DIg X W tg e ρ (sls ds) := pi_imp (pi_list (pe_bnd h)) fun σ H R ⟨G, c, k⟩ => ⟨G, c, fun v G1 H1 g1 r1 bd => by
  cases r1 with
  | lst h1 h2 => exact ⟨_, rfl, ⟨_, .inl (rd_mono g1.i h1)⟩, k _ G1 H1 g1 ⟨by unfold sls; rw [List.length_map]; exact bd, fun i H hz hi => by
        have hi' := hi
        unfold sls at hi'
        rw [List.length_map, ← h2.length] at hi'
        exact ⟨_, _, .inl (rd_mono hz h1), List.getElem?_eq_getElem hi'⟩, fun i H hz hi => ⟨_, .inl (rd_mono hz h1), by
        unfold sls at hi
        rw [List.length_map, ← h2.length] at hi
        exact hi⟩, fun i G1 H x H1 s hz hg hh hs hy => by
        obtain ⟨rfl, q⟩ := hy
        have hx := q _ (.inl (rd_mono hz h1))
        obtain ⟨d, hd, rd⟩ := h2.get' hx
        unfold sls at hs
        rw [List.getElem?_map, hd] at hs
        cases hs
        exact ⟨G1, .refl hh, rp_mono hg _ _ rd⟩⟩⟩⟩
theorem dih_list {ds : List PyData} (h : DS X W e ρ ds) : DIh X W tg e ρ (sls ds) := pi_imp (pi_list (ps_bnd h)) fun σ H R ⟨G, c, k⟩ => ⟨G, c, fun p xs G1 H1 g1 h1 h2 bd => ⟨_, rfl, ⟨_, .inl h1⟩, k _ G1 H1 g1 ⟨by unfold sls; rw [List.length_map]; exact bd, fun i H hz hi => by
        have hi' := hi
        unfold sls at hi'
        rw [List.length_map, ← h2.length] at hi'
        exact ⟨_, _, .inl (rd_mono hz h1), List.getElem?_eq_getElem hi'⟩, fun i H hz hi => ⟨_, .inl (rd_mono hz h1), by
        unfold sls at hi
        rw [List.length_map, ← h2.length] at hi
        exact hi⟩, fun i G1 H x H1 s hz hg hh hs hy => by
        obtain ⟨rfl, q⟩ := hy
        have hx := q _ (.inl (rd_mono hz h1))
        obtain ⟨d, hd, rd⟩ := h2.get' hx
        unfold sls at hs
        rw [List.getElem?_map, hd] at hs
        cases hs
        exact ⟨G1, .refl hh, rp_mono hg _ _ rd⟩⟩⟩⟩
theorem dig_tup {ds : List PyData} (h : DE X W e ρ (.d (.tuple ds))) : DIg X W tg e ρ (sls ds) := pi_imp (pi_tup (pt_bnd h)) fun σ H R ⟨G, c, k⟩ => ⟨G, c, fun v G1 H1 g1 r1 bd => by
  cases r1 with
  | tup h1 h2 => exact ⟨_, rfl, ⟨_, .inl (.inl (g1.i _ _ h1))⟩, k _ G1 H1 g1 ⟨by unfold sls; rw [List.length_map]; exact bd, fun i H hz hi => by
        have hi' := hi
        unfold sls at hi'
        rw [List.length_map, ← h2.length] at hi'
        exact ⟨_, _, .inl (.inl (hz _ _ h1)), List.getElem?_eq_getElem hi'⟩, fun i H hz hi => ⟨_, .inl (.inl (hz _ _ h1)), by
        unfold sls at hi
        rw [List.length_map, ← h2.length] at hi
        exact hi⟩, fun i G1 H x H1 s hz hg hh hs hy => by
        obtain ⟨rfl, q⟩ := hy
        have hx := q _ (.inl (.inl (hz _ _ h1)))
        obtain ⟨d, hd, rd⟩ := h2.get' hx
        unfold sls at hs
        rw [List.getElem?_map, hd] at hs
        cases hs
        exact ⟨G1, .refl hh, rp_mono hg _ _ rd⟩⟩⟩⟩
/-- lo, lo + 1, .. below hi -/
def rng (lo hi : Int) : List Int := (List.range (hi - lo).toNat).map fun (i : Nat) => lo + (i : Int)
theorem rng_len (lo hi : Int) : (rng lo hi).length = (hi - lo).toNat := by
  unfold rng
  rw [List.length_map, List.length_range]
theorem mem_rng {lo hi x : Int} : x ∈ rng lo hi ↔ lo ≤ x ∧ x < hi := by
  unfold rng
  rw [List.mem_map]
  constructor
  · rintro ⟨i, hi', rfl⟩
    have := List.mem_range.mp hi'
    omega
  · rintro ⟨h1, h2⟩
    exact ⟨(x - lo).toNat, List.mem_range.mpr (by omega), by omega⟩
theorem wk_rng {G : Hp} {lo hi : Int} (hl : -1000000 ≤ lo ∧ hi ≤ 1000000) : Wk G G ((rng lo hi).map fun i => En i) (Itr lo (hi - lo).toNat) where
  len := by
    rw [List.length_map, rng_len, sizeLine_eq]
    omega
  go := fun i H _ h => by
    rw [List.length_map, rng_len] at h
    exact h
  stop := fun i H _ h => by
    rw [List.length_map, rng_len] at h
    exact h
  yld := fun i G1 H x H1 s _ _ hh hs hy => by
    obtain ⟨rfl, rfl⟩ := hy
    rw [List.getElem?_map] at hs
    cases q : (rng lo hi)[i]? with
    | none =>
      rw [q] at hs
      cases hs
    | some y =>
      rw [q] at hs
      cases hs
      unfold rng at q
      rw [List.getElem?_map] at q
      cases q2 : (List.range (hi - lo).toNat)[i]? with
      | none =>
        rw [q2] at q
        cases q
      | some j =>
        rw [q2] at q
        cases q
        have h3 := (List.getElem?_eq_some_iff.mp q2)
        obtain ⟨h4, h5⟩ := h3
        rw [List.getElem_range] at h5
        subst h5
        exact ⟨G1, .refl hh, .int _⟩
variable {fp : Pos}
theorem dig_rng1 {j : Int} (hm : X.mg "range" = none) (ha : DE X W a ρ (En j)) (hj : -1000000 ≤ j ∧ j ≤ 1000000) (hg : Gl X "range" := by rfl) (hs : starEach [a] X.env = [(false, eval a X.env)] := by rfl) (hs2 : starEach [a] X.env = (false, eval a X.env) :: starEach [] X.env := by rfl) :
    DIg X W tg (.Call (.Name "range" fp) [a] [] pos) ρ ((rng 0 j).map fun i => En i) := pi_imp (pi_range1 hg hm (da_cons ha da_nil hs2) hs) fun σ H R ⟨G, c, k⟩ => ⟨G, c, fun vs G1 H1 g1 r1 => by
      cases r1 with
      | cons h t =>
        cases t
        cases h
        refine ⟨j, rfl, by omega, by omega, k _ G1 H1 g1 ?_⟩
        have q := wk_rng (G := G1) (lo := 0) (hi := j) (by omega)
        rw [Int.sub_zero] at q
        exact q⟩
theorem dig_rng2 {i j : Int} (hm : X.mg "range" = none) (ha : DE X W a ρ (En i)) (hb : DE X W b ρ (En j)) (hi : -1000000 ≤ i ∧ i ≤ 1000000 ∧ -1000000 ≤ j ∧ j ≤ 1000000) (hg : Gl X "range" := by rfl) (hs : starEach [a, b] X.env = [(false, eval a X.env), (false, eval b X.env)] := by rfl)
    (hs1 : starEach [b] X.env = [(false, eval b X.env)] := by rfl) (hs2 : starEach [a, b] X.env = (false, eval a X.env) :: starEach [b] X.env := by rfl) (hs3 : starEach [b] X.env = (false, eval b X.env) :: starEach [] X.env := by rfl) :
    DIg X W tg (.Call (.Name "range" fp) [a, b] [] pos) ρ ((rng i j).map fun i => En i) := pi_imp (pi_range2 hg hm (da_cons ha (da_cons hb da_nil hs3) hs2) hs hs1) fun σ H R ⟨G, c, k⟩ => ⟨G, c, fun vs G1 H1 g1 r1 => by
      cases r1 with
      | cons h t =>
        cases t with
        | cons h2 t =>
          cases t
          cases h
          cases h2
          exact ⟨i, j, rfl, by omega, k _ G1 H1 g1 (wk_rng (by omega))⟩⟩
/-- enumerate: each item behind its number -/
def enm (n : Nat) : List PyData → List Sl
  | [] => []
  | d :: ds => .d (.tuple [.int (n : Int), d]) :: enm (n + 1) ds
theorem enm_len : ∀ (n : Nat) (ds : List PyData), (enm n ds).length = ds.length
  | _, [] => rfl
  | n, d :: ds => by rw [enm, List.length_cons, List.length_cons, enm_len]
theorem enm_get : ∀ (ds : List PyData) (n i : Nat), (enm n ds)[i]? = (ds[i]?).map fun d => .d (.tuple [.int ((n + i : Nat) : Int), d])
  | [], n, i => by simp [enm]
  | d :: ds, n, 0 => by simp [enm]
  | d :: ds, n, i + 1 => by
    have h := enm_get ds (n + 1) i
    rw [enm, List.getElem?_cons_succ, h, List.getElem?_cons_succ]
    have e : n + 1 + i = n + (i + 1) := by omega
    rw [e]
theorem dig_enum {ds : List PyData} {elts : List Expr} {kk : Nat} {tpos : Pos} (hm : X.mg "enumerate" = none) (ha : DE X W a ρ (.d (.list ds))) (hg : Gl X "enumerate" := by rfl) (hs : starEach [a] X.env = [(false, eval a X.env)] := by rfl) (hs2 : starEach [a] X.env = (false, eval a X.env) :: starEach [] X.env := by rfl) :
    DIg X W (.Tuple elts kk tpos) (.Call (.Name "enumerate" fp) [a] [] pos) ρ (enm 0 ds) := pi_imp (pi_enum hg hm (pa_cons (pe_bnd ha) pa_nil hs2) hs) fun σ H R ⟨G, c, k⟩ => ⟨G, c, fun v G1 H1 g1 r1 bd => by
        cases r1 with
        | lst h1 h2 =>
          refine ⟨_, _, rfl, .inl (rd_mono g1.i h1), k _ G1 H1 g1 ⟨by rw [enm_len]; exact bd, fun i H hz hi => ?_, fun i H hz hi => ⟨_, .inl (rd_mono hz h1), ?_⟩, fun i G2 H x H2 s hz hg hh hs hy => ?_⟩⟩
          · rw [enm_len, ← h2.length] at hi
            exact ⟨_, _, .inl (rd_mono hz h1), List.getElem?_eq_getElem hi⟩
          · rw [enm_len, ← h2.length] at hi
            exact hi
          · obtain ⟨T, y, rfl, hT, rfl, q⟩ := hy
            have hx := q _ (.inl (rd_mono hz h1))
            obtain ⟨d, hd, rd⟩ := h2.get' hx
            rw [enm_get, hd, Nat.zero_add] at hs
            cases hs
            exact ⟨upd G2 T (.tup [.int (i : Nat), y]), .new hh hT, .tup upd_same (.cons (.int _) (.cons (rp_mono (hg.trans (same_upd (hh.free hT))) _ _ rd) .nil))⟩⟩

/-! ### targets -/
def SetOnly (js : List Nat) (σ σ' : L2.St) : Prop := σ'.length = σ.length ∧ ∀ i, i ∉ js → σ'[i]? = σ[i]?
theorem SetOnly.refl (js : List Nat) (σ : L2.St) : SetOnly js σ σ := ⟨rfl, fun _ _ => rfl⟩
theorem SetOnly.trans {js : List Nat} {σ σ1 σ2 : L2.St} (a : SetOnly js σ σ1) (b : SetOnly js σ1 σ2) : SetOnly js σ σ2 := ⟨b.1.trans a.1, fun i h => (b.2 i h).trans (a.2 i h)⟩
theorem SetOnly.set {js : List Nat} {σ : L2.St} {j : Nat} {v : Option V} (h : j ∈ js) : SetOnly js σ (σ.set j v) := ⟨List.length_set, fun i hi => List.getElem?_set_ne fun e => hi (by rw [← e]; exact h)⟩
/-- a value that stands for s goes to the target: the slots js are written, ρ' is known then -/
def tG (W : Res) (ρ : Ro) (s : Sl) (ρ' : Ro) (js : List Nat) : TG := fun v σ H Q => ∃ G, Cxt W ρ G σ H ∧ RepS G v s ∧ ∀ σ', EnvR G σ' ρ' → SetOnly js σ σ' → Q σ' H
def tGs (W : Res) (ρ : Ro) (ss : List PyData) (ρ' : Ro) (js : List Nat) : TGs := fun vs σ H Q => ∃ G, Cxt W ρ G σ H ∧ RpAll G vs ss ∧ ∀ σ', EnvR G σ' ρ' → SetOnly js σ σ' → Q σ' H
abbrev DG (X : Cx) (W : Res) (tg : Expr) (ρ : Ro) (s : Sl) (ρ' : Ro) (js : List Nat) : Prop := PG X tg (tG W ρ s ρ' js)
abbrev DGs (X : Cx) (W : Res) (ts : List Expr) (ρ : Ro) (ss : List PyData) (ρ' : Ro) (js : List Nat) : Prop := PGs X ts (tGs W ρ ss ρ' js)
theorem pg_imp {t t' : TG} (h : PG X tg t) (k : ∀ v σ H R, t' v σ H R → t v σ H R) : PG X tg t' := ⟨fun pins st σ H v u R I r hq => h.run pins st σ H v u R I r (k v σ H R hq)⟩
theorem pgs_imp {ts : List Expr} {t t' : TGs} (h : PGs X ts t) (k : ∀ v σ H R, t' v σ H R → t v σ H R) : PGs X ts t' := ⟨fun pins st σ H v u R I r hq => h.run pins st σ H v u R I r (k v σ H R hq)⟩
theorem dg_name {i : Nat} {x : Str} {js : List Nat} (hN : X.N.Nodup) (hi : X.N[i]? = some x := by rfl) (hj : i ∈ js := by decide) (hx : Loc X.env.scope x := by first | exact Or.inl rfl | exact Or.inr rfl) (hf : X.fn x = true ∨ X.env.scope.names.lookup x = some .local := by first | exact Or.inl rfl | exact Or.inr rfl) :
    DG X W (.Name x pos) ρ s (ρ.set i (some s)) js := pg_imp (pg_name hN hi hx hf) fun v σ H Q ⟨G, c, r, k⟩ => k _ (c.e.set r i) (.set hj)
theorem dgs_nil {js : List Nat} : DGs X W [] ρ [] ρ js := pgs_imp pgs_nil fun vs σ H Q ⟨G, c, r, k⟩ => by
  cases r
  exact ⟨rfl, k σ c.e (.refl _ _)⟩
theorem dgs_cons {ts : List Expr} {d : PyData} {ds : List PyData} {ρ1 ρ2 : Ro} {js : List Nat} (h1 : DG X W e ρ (.d d) ρ1 js) (h2 : DGs X W ts ρ1 ds ρ2 js) (hs : (assignEach (e :: ts) X.env).map (·.2) = assign e X.env :: (assignEach ts X.env).map (·.2) := by rfl) : DGs X W (e :: ts) ρ (d :: ds) ρ2 js :=
  pgs_imp (pgs_cons h1 h2 hs) fun vs σ H Q ⟨G, c, r, k⟩ => by
    cases r with
    | cons r1 r2 => exact ⟨_, _, rfl, G, c, r1, fun σ1 e1 s1 => ⟨G, ⟨c.s, c.w, e1⟩, r2, fun σ2 e2 s2 => k σ2 e2 (s1.trans s2)⟩⟩
theorem dg_tup {ts : List Expr} {k n : Nat} {ds : List PyData} {ρ' : Ro} {js : List Nat} (hc : X.calm = true) (h : DGs X W ts ρ ds ρ' js) (hn : (assignEach ts X.env).length = n := by rfl) (hst : (assignEach ts X.env).findIdx? (·.1) = none := by rfl) (hl : ds.length = n := by rfl) :
    DG X W (.Tuple ts k pos) ρ (.d (.tuple ds)) ρ' js := pg_imp (pg_tup hc h hn hst) fun v σ H Q ⟨G, c, r, q⟩ => by
  cases r with
  | tup h1 h2 => exact ⟨_, _, rfl, .inl (.inl (c.s _ _ h1)), by rw [h2.length]; exact hl, G, c, h2, q⟩

/-! ### comprehensions -/
def wipeR (ρ : Ro) : List Nat → Ro
  | [] => ρ
  | v :: vs => (wipeR ρ vs).set v none
theorem wipeR_len (ρ : Ro) : ∀ vs : List Nat, (wipeR ρ vs).length = ρ.length
  | [] => rfl
  | v :: vs => by rw [wipeR, List.length_set, wipeR_len ρ vs]
theorem wipeR_some {ρ : Ro} {i : Nat} {s : Sl} : ∀ {vs : List Nat}, (wipeR ρ vs)[i]? = some (some s) → ρ[i]? = some (some s) ∧ i ∉ vs
  | [], h => ⟨h, by simp⟩
  | v :: vs, h => by
    unfold wipeR at h
    by_cases hi : v = i
    · subst hi
      by_cases hv : v < (wipeR ρ vs).length
      · rw [List.getElem?_set_self hv] at h
        cases h
      · rw [List.getElem?_eq_none (by rw [List.length_set]; omega)] at h
        cases h
    · rw [List.getElem?_set_ne hi] at h
      obtain ⟨h1, h2⟩ := wipeR_some h
      exact ⟨h1, by
        simp only [List.mem_cons, not_or]
        exact ⟨fun q => hi q.symm, h2⟩⟩
theorem EnvR.wipe {G : Hp} {σ : L2.St} {ρ : Ro} (h : EnvR G σ ρ) (vs : List Nat) : EnvR G (L2.wipe σ vs) (wipeR ρ vs) := ⟨by rw [wipeR_len, wipe_length]; exact h.1, fun i s q => by
  obtain ⟨h1, h2⟩ := wipeR_some q
  obtain ⟨v, h3, h4⟩ := h.2 i s h1
  exact ⟨v, (wipe_out h2).trans h3, h4⟩⟩
theorem wipe_in {σ : L2.St} {i : Nat} : ∀ {vs : List Nat}, i ∈ vs → i < σ.length → (L2.wipe σ vs)[i]? = some none
  | [], h, _ => by cases h
  | v :: vs, h, hl => by
    unfold L2.wipe
    by_cases hi : v = i
    · subst hi
      rw [List.getElem?_set_self (by rw [wipe_length]; exact hl)]
    · rw [List.getElem?_set_ne hi]
      exact wipe_in ((List.mem_cons.mp h).resolve_left fun q => hi q.symm) hl
theorem wipe_same {vs : List Nat} {σ σ' : L2.St} (h : SetOnly vs (L2.wipe σ vs) σ') : L2.wipe σ' vs = L2.wipe σ vs := by
  apply List.ext_getElem?
  intro i
  by_cases hi : i ∈ vs
  · have hlen : σ'.length = σ.length := by rw [h.1, wipe_length]
    by_cases hl : i < σ.length
    · rw [wipe_in hi (by omega), wipe_in hi hl]
    · rw [List.getElem?_eq_none (by rw [wipe_length]; omega), List.getElem?_eq_none (by rw [wipe_length]; omega)]
  · rw [wipe_out hi, h.2 i hi]

variable {α : Type}
def lcG (W : Res) (ρ : Ro) (vs : List Nat) (xs : List α) (ea : α → Sl) (ρ' : α → Ro) : TG := fun v σ H Q => ∃ x, x ∈ xs ∧ tG W (wipeR ρ vs) (ea x) (ρ' x) vs v σ H Q
def lcT (W : Res) (xs : List α) (p : α → Bool) (ρ' : α → Ro) : TT := fun σ H Q => ∃ x, x ∈ xs ∧ tT W (ρ' x) (p x) σ H Q
def lcE (W : Res) (xs : List α) (p : α → Bool) (fd : α → PyData) (ρ' : α → Ro) : TE := fun σ H Q => ∃ x, x ∈ xs ∧ p x = true ∧ tD W (ρ' x) (.d (fd x)) σ H Q
theorem lc_read (vs : List Nat) (xs : List α) (ea : α → Sl) (p : α → Bool) (fd : α → PyData) (ρ' : α → Ro) {σ : L2.St} {H : Hp} {Q : VK} (h : tN W ρ ((xs.filter p).map fd) σ H Q) : tLc (tIh W ρ (xs.map ea)) (lcG W ρ vs xs ea ρ') (lcT W xs p ρ') (lcE W xs p fd ρ') vs σ H Q := by
  obtain ⟨G, c, k⟩ := h
  refine ⟨G, c, fun J G1 H1 g1 wk D hD => ?_⟩
  have c1 := c.step g1
  have gD : G1 D = none := c1.s.free hD
  refine ⟨fun i m H' => m = xs.length - i ∧ ∃ G', Gw G1 H1 G' H' ∧ G' D = none ∧ ∃ acc, H' D = some (.lst acc) ∧ acc.length ≤ i ∧ RpAll G' acc (((xs.take i).filter p).map fd), ⟨xs.length, rfl, G1, .heap c1.s (same_upd hD), gD, [], upd_same, Nat.zero_le _, .nil⟩, ?_⟩
  rintro i m H' ⟨rfl, G', g', gD', acc, hacc, hal, racc⟩
  by_cases hi' : i < xs.length
  · refine .inr ⟨wk.go i H' g'.h (by rw [List.length_map]; exact hi'), fun H2 => ∃ G2, Gw G1 H1 G2 H2 ∧ G2 D = none ∧ ∃ acc, H2 D = some (.lst acc) ∧ acc.length ≤ i + 1 ∧ RpAll G2 acc (((xs.take (i + 1)).filter p).map fd), fun H2 ⟨G2, q⟩ => ⟨xs.length - (i + 1), by omega, rfl, G2, q⟩, fun y H2 hy => ?_⟩
    have hx : xs[i]? = some xs[i] := List.getElem?_eq_getElem hi'
    have hmem : xs[i] ∈ xs := List.getElem_mem hi'
    obtain ⟨G2, g2, r2⟩ := wk.yld i G' H' y H2 (ea xs[i]) g'.h g'.g g'.i (by rw [List.getElem?_map, hx]; rfl) hy
    have gD2 : G2 D = none := g2.nosh hacc (fun _ z => nomatch z) gD'
    have g12 := g'.trans g2
    have hD2 := g2.h D _ hacc
    refine ⟨xs[i], hmem, G2, ⟨g2.i, W.mono c1.s g12 c1.w, (c1.e.mono g12.g).wipe _⟩, r2, fun σ2 e2 s2 => ⟨wipe_same s2, xs[i], hmem, G2, ⟨g2.i, W.mono c1.s g12 c1.w, e2⟩, fun G3 H3 g3 => ?_⟩⟩
    have gD3 : G3 D = none := g3.nosh hD2 (fun _ z => nomatch z) gD2
    have hD3 := g3.h D _ hD2
    have g13 := g12.trans g3
    have htk : xs.take (i + 1) = xs.take i ++ [xs[i]] := List.take_succ_eq_append_getElem hi'
    have isz : i < sizeLine ∨ sizeLine ≤ i := Nat.lt_or_ge i sizeLine
    cases hp : p xs[i] with
    | true =>
      refine iteT ⟨xs[i], hmem, hp, G3, ⟨g3.i, W.mono c1.s g13 c1.w, e2.mono g3.g⟩, fun v G4 H4 g4 r4 => ?_⟩
      have gD4 : G4 D = none := g4.nosh hD3 (fun _ z => nomatch z) gD3
      have hD4 := g4.h D _ hD3
      have g14 := g13.trans g4
      refine ⟨acc, hD4, ?_, G4, ⟨g14.g, fun b o q => ?_, fun b o q => ?_, g14.n⟩, gD4, acc ++ [v], upd_same, by rw [List.length_append, List.length_singleton]; omega, ?_⟩
      · have hw := wk.len
        rw [List.length_map] at hw
        omega
      · rw [upd_ne (ne_of_none q hD)]
        exact g14.h b o q
      · rw [upd_ne (ne_of_none q gD4)]
        exact g14.i b o q
      · rw [htk, List.filter_append, List.map_append, List.filter_cons, if_pos hp]
        exact (rpAll_mono ((g2.trans g3).trans g4).g _ _ racc).append (.cons r4 .nil)
    | false =>
      refine iteF ⟨G3, g13, gD3, acc, hD3, Nat.le_succ_of_le hal, ?_⟩
      rw [htk, List.filter_append, List.map_append, List.filter_cons, if_neg (by rw [hp]; decide)]
      show RpAll G3 acc (_ ++ [])
      rw [List.append_nil]
      exact rpAll_mono (g2.trans g3).g _ _ racc
  · have hle : xs.length ≤ i := by omega
    refine .inl ⟨wk.stop i H' g'.h (by rw [List.length_map]; exact hle), k D acc G' H' (g1.trans g') (g1.h.free hD) gD' hacc ?_⟩
    rw [List.take_of_length_le hle] at racc
    exact racc
theorem lcg_ok {own : List (Str × Nat)} {scope : Scope} {xs : List α} {ea : α → Sl} {ρ' : α → Ro}
    (hg : ∀ x, x ∈ xs → ∀ (s : Shared) (H : Hp) (C : Addr) (cl : List (Str × Addr)) (fp : List Addr), DG (X.blk s H scope (compEnvC scope cl C X.env) fp) W tg (wipeR ρ (own.map (·.2))) (ea x) (ρ' x) (own.map (·.2)))
    (s : Shared) (H : Hp) (C : Addr) (cl : List (Str × Addr)) (fp : List Addr) : PG (X.blk s H scope (compEnvC scope cl C X.env) fp) tg (lcG W ρ (own.map (·.2)) xs ea ρ') := ⟨fun pins st σ H' v u Q I r ⟨x, hx, q⟩ => (hg x hx s H C cl fp).run pins st σ H' v u Q I r q⟩
theorem lct_ok {scope : Scope} {ifs : List Expr} {xs : List α} {p : α → Bool} {ρ' : α → Ro}
    (ht : ∀ x, x ∈ xs → ∀ (s : Shared) (H : Hp) (C : Addr) (cl : List (Str × Addr)) (fp : List Addr), PTs (X.blk s H scope (compEnvC scope cl C X.env) fp) ifs (tT W (ρ' x) (p x)))
    (s : Shared) (H : Hp) (C : Addr) (cl : List (Str × Addr)) (fp : List Addr) : PTs (X.blk s H scope (compEnvC scope cl C X.env) fp) ifs (lcT W xs p ρ') := ⟨fun pins st σ H' Q I ⟨x, hx, q⟩ => (ht x hx s H C cl fp).run pins st σ H' Q I q⟩
theorem lce_ok {elt : Expr} {scope : Scope} {xs : List α} {p : α → Bool} {fd : α → PyData} {ρ' : α → Ro}
    (he : ∀ x, x ∈ xs → p x = true → ∀ (s : Shared) (H : Hp) (C : Addr) (cl : List (Str × Addr)) (fp : List Addr), DE (X.blk s H scope (compEnvC scope cl C X.env) fp) W elt (ρ' x) (.d (fd x)))
    (s : Shared) (H : Hp) (C : Addr) (cl : List (Str × Addr)) (fp : List Addr) : PE (X.blk s H scope (compEnvC scope cl C X.env) fp) elt (lcE W xs p fd ρ') := ⟨fun pins st σ H' Q I ⟨x, hx, hp, q⟩ => (he x hx hp s H C cl fp).run pins st σ H' Q I q⟩
theorem dn_lc {elt iter : Expr} {ifs : List Expr} {scope : Scope} {own : List (Str × Nat)} (xs : List α) (ea : α → Sl) (p : α → Bool) (fd : α → PyData) (ρ' : α → Ro) (hc : X.calm = true) (hN : X.N.Nodup) (hi : DIh X W tg iter ρ (xs.map ea)) (ok : BlkOk X.N X.env.scope scope own)
    (hg : ∀ x, x ∈ xs → ∀ (s : Shared) (H : Hp) (C : Addr) (cl : List (Str × Addr)) (fp : List Addr), DG (X.blk s H scope (compEnvC scope cl C X.env) fp) W tg (wipeR ρ (own.map (·.2))) (ea x) (ρ' x) (own.map (·.2)))
    (ht : ∀ x, x ∈ xs → ∀ (s : Shared) (H : Hp) (C : Addr) (cl : List (Str × Addr)) (fp : List Addr), PTs (X.blk s H scope (compEnvC scope cl C X.env) fp) ifs (tT W (ρ' x) (p x)))
    (he : ∀ x, x ∈ xs → p x = true → ∀ (s : Shared) (H : Hp) (C : Addr) (cl : List (Str × Addr)) (fp : List Addr), DE (X.blk s H scope (compEnvC scope cl C X.env) fp) W elt (ρ' x) (.d (fd x)))
    (hs : ∀ x, foldedSetIterable iter X.env x = pure x := by intro _; rfl) : DN X W (.ListComp elt [⟨tg, iter, ifs, 0⟩] scope pos) ρ ((xs.filter p).map fd) :=
  pe_imp (pe_lc hc hN hi ok (lcg_ok hg) (lct_ok ht) (lce_ok he) hs) fun σ H Q h => lc_read _ xs ea p fd ρ' h
/-- y = [..], y a local: the model stores it within -/
theorem pn_lc {i : Nat} {y : Str} {py spos : Pos} {elt iter : Expr} {ifs : List Expr} {scope : Scope} {own : List (Str × Nat)} (xs : List α) (ea : α → Sl) (p : α → Bool) (fd : α → PyData) (ρ' : α → Ro) (hc : X.calm = true) (hN : X.N.Nodup) (hy : X.N[i]? = some y) (hyl : X.env.scope.names.lookup y = some .local)
    (hsw : swapsWith (.ListComp elt [⟨tg, iter, ifs, 0⟩] scope pos) (some (.Name y py)) spos.line X.env = pure true) (hi : DIh X W tg iter ρ (xs.map ea)) (ok : BlkOk X.N X.env.scope scope own)
    (hg : ∀ x, x ∈ xs → ∀ (s : Shared) (H : Hp) (C : Addr) (cl : List (Str × Addr)) (fp : List Addr), DG (X.blk s H scope (compEnvC scope cl C X.env) fp) W tg (wipeR ρ (own.map (·.2))) (ea x) (ρ' x) (own.map (·.2)))
    (ht : ∀ x, x ∈ xs → ∀ (s : Shared) (H : Hp) (C : Addr) (cl : List (Str × Addr)) (fp : List Addr), PTs (X.blk s H scope (compEnvC scope cl C X.env) fp) ifs (tT W (ρ' x) (p x)))
    (he : ∀ x, x ∈ xs → p x = true → ∀ (s : Shared) (H : Hp) (C : Addr) (cl : List (Str × Addr)) (fp : List Addr), DE (X.blk s H scope (compEnvC scope cl C X.env) fp) W elt (ρ' x) (.d (fd x)))
    (hs : ∀ x, foldedSetIterable iter X.env x = pure x := by intro _; rfl) : PS X (.Assign [.Name y py] (.ListComp elt [⟨tg, iter, ifs, 0⟩] scope pos) spos) (tAsg (tN W ρ ((xs.filter p).map fd)) (gName i)) := by
  have h := ps_setLc hc hN hy hyl hsw hi ok (lcg_ok hg) (lct_ok ht) (lce_ok he) hs
  exact ⟨fun pins s σ H D I q => h.run pins s σ H D I (lc_read _ xs ea p fd ρ' q)⟩
end
end DL

/-! DL5: statements, loops, defs and their calls, objects. -/
namespace DL
open PySem PySem.Spec L2
open PyProof.Rows hiding St
open PySem.W (Datum DatumOrd Tup T3 Holds HoldAll EachIs)

/-! ### statements -/
/-- where a body stands: G0, H0 at its entry, G1 what must still be shared -/
def At (G0 H0 G1 : Hp) (W : Res) (ρ : Ro) : L2.St → Hp → Prop := fun σ H => ∃ G, Gw G0 H0 G H ∧ Same G1 G ∧ Cxt W ρ G σ H
structure DSt (X : Cx) (st : Stmt) (P : L2.St → Hp → Prop) (D : Ends) : Prop where
  run : ∀ (pins : List (Addr × Obj)) (s : Shared) (σ : L2.St) (H : Hp), Inv X pins σ H s → P σ H → wpAny (model X.prog X.w) X.A (exec st X.env) (SP X pins D) X.xe s
structure DSs (X : Cx) (b : List Stmt) (P : L2.St → Hp → Prop) (D : Ends) : Prop where
  run : ∀ (pins : List (Addr × Obj)) (s : Shared) (σ : L2.St) (H : Hp), Inv X pins σ H s → P σ H → wpAny (model X.prog X.w) X.A (execs b X.env) (SP X pins D) X.xe s
section
variable {X : Cx} {G0 H0 G1 : Hp} {W : Res} {ρ : Ro} {D : Ends} {pos : Pos} {e a b c : Expr} {rest body : List Stmt} {st : Stmt} {s : Sl} {P : L2.St → Hp → Prop}
theorem dst_of {t : TS} (h : PS X st t) (k : ∀ σ H, P σ H → t D σ H) : DSt X st P D := ⟨fun pins s σ H I p => h.run pins s σ H D I (k σ H p)⟩
theorem dss_of {t : TS} (h : PSs X body t) (k : ∀ σ H, P σ H → t D σ H) : DSs X body P D := ⟨fun pins s σ H I p => h.run pins s σ H D I (k σ H p)⟩
theorem d_imp {P' : L2.St → Hp → Prop} (h : DSs X body P D) (k : ∀ σ H, P' σ H → P σ H) : DSs X body P' D := ⟨fun pins s σ H I p => h.run pins s σ H I (k σ H p)⟩
/-- the block as a reading -/
def tB (X : Cx) (body : List Stmt) : TS := fun D σ H => ∃ P, DSs X body P D ∧ P σ H
theorem pss_tB : PSs X body (tB X body) := ⟨fun pins s σ H D I ⟨P, h, p⟩ => h.run pins s σ H I p⟩
theorem d_nil (k : ∀ σ H, P σ H → D.nx σ H) : DSs X [] P D := dss_of pss_nil k
theorem d_cons {M : L2.St → Hp → Prop} (h1 : DSt X st P { D with nx := M }) (h2 : DSs X rest M D) : DSs X (st :: rest) P D := by
  refine ⟨fun pins s σ H I p => ?_⟩
  refine wpAny_execs_cons (thn (h1.run pins s σ H I p) fun f s1 q => ?_)
  cases f with
  | next =>
    obtain ⟨σ', H', I', q⟩ := q
    exact h2.run pins s1 σ' H' I' q
  | ret v => exact q
  | brk => exact q
  | cont => exact q
/-- of several ways to a state, or something known of it -/
theorem d_ex {ι : Sort _} {P : ι → L2.St → Hp → Prop} (h : ∀ i, DSs X body (P i) D) : DSs X body (fun σ H => ∃ i, P i σ H) D := ⟨fun pins s σ H I ⟨i, p⟩ => (h i).run pins s σ H I p⟩
theorem d_and {p : Prop} (h : p → DSs X body P D) : DSs X body (fun σ H => p ∧ P σ H) D := ⟨fun pins s σ H I ⟨q, r⟩ => (h q).run pins s σ H I r⟩
theorem d_weak {ρ' : Ro} (w : Wkr ρ ρ') (h : DSs X body (At G0 H0 G1 W ρ') D) : DSs X body (At G0 H0 G1 W ρ) D := d_imp h fun σ H ⟨G, g, q, c⟩ => ⟨G, g, q, c.s, c.w, c.e.weak w⟩
theorem d_res {W' : Res} (w : ∀ G H, Same G H → W.p G H → W'.p G H) (h : DSs X body (At G0 H0 G1 W' ρ) D) : DSs X body (At G0 H0 G1 W ρ) D := d_imp h fun σ H ⟨G, g, q, c⟩ => ⟨G, g, q, c.s, w G H c.s c.w, c.e⟩
theorem At.weak {ρ' : Ro} (w : Wkr ρ ρ') {σ : L2.St} {H : Hp} (h : At G0 H0 G1 W ρ σ H) : At G0 H0 G1 W ρ' σ H := by
  obtain ⟨G, g, q, c⟩ := h
  exact ⟨G, g, q, c.s, c.w, c.e.weak w⟩

theorem d_pass (k : DSs X rest P D) : DSs X (.Pass pos :: rest) P D := d_cons (dst_of ps_pass fun σ H p => p) k
theorem d_set {i : Nat} {x : Str} {p' : Pos} (hN : X.N.Nodup) (he : DE X W e ρ s) (k : DSs X rest (At G0 H0 G1 W (ρ.set i (some s))) D) (hi : X.N[i]? = some x := by rfl) (hx : Loc X.env.scope x := by first | exact Or.inl rfl | exact Or.inr rfl)
    (hs : swapsWith e (some (.Name x p')) pos.line X.env = pure false := by rfl) (hf : X.fn x = true ∨ X.env.scope.names.lookup x = some .local := by first | exact Or.inl rfl | exact Or.inr rfl) : DSs X (.Assign [.Name x p'] e pos :: rest) (At G0 H0 G1 W ρ) D :=
  d_cons (M := At G0 H0 G1 W (ρ.set i (some s))) (dst_of (ps_set hN hi hx he hs hf) fun σ H ⟨G, g, q, c⟩ => ⟨G, c, fun v G' H' g' r => ⟨G', g.trans g', q.trans g'.g, g'.i, W.mono c.s g' c.w, (c.e.mono g'.g).set r i⟩⟩) k
/-- a named value -/
theorem d_let {α : Type} [DecidableEq α] [Datum α] {i : Nat} {x : Str} {p' : Pos} {y : α} (hN : X.N.Nodup) (he : DE X W e ρ (En y)) (k : ∀ z : α, z = y → DSs X rest (At G0 H0 G1 W (ρ.set i (some (En z)))) D) (hi : X.N[i]? = some x := by rfl) (hx : Loc X.env.scope x := by first | exact Or.inl rfl | exact Or.inr rfl)
    (hs : swapsWith e (some (.Name x p')) pos.line X.env = pure false := by rfl) (hf : X.fn x = true ∨ X.env.scope.names.lookup x = some .local := by first | exact Or.inl rfl | exact Or.inr rfl) : DSs X (.Assign [.Name x p'] e pos :: rest) (At G0 H0 G1 W ρ) D :=
  d_set hN he (k y rfl) hi hx hs hf
/-- target = e -/
theorem d_asg {tg : Expr} {ρ' : Ro} {js : List Nat} (he : DE X W e ρ s) (hg : DG X W tg ρ s ρ' js) (k : DSs X rest (At G0 H0 G1 W ρ') D) (hs : swapsWithSole [tg] e pos.line X.env = pure false := by rfl) (hw : swappedStores [tg] e X.env = pure none := by rfl)
    (h1 : (assignEach [tg] X.env).map (·.2) = [assign tg X.env] := by rfl) : DSs X (.Assign [tg] e pos :: rest) (At G0 H0 G1 W ρ) D :=
  d_cons (M := At G0 H0 G1 W ρ') (dst_of (ps_asg he hg hs hw h1) fun σ H ⟨G, g, q, c⟩ => ⟨G, c, fun v G' H' g' r => ⟨G', c.step g', r, fun σ' e' _ => ⟨G', g.trans g', q.trans g'.g, g'.i, W.mono c.s g' c.w, e'⟩⟩⟩) k
theorem d_drop (he : DE X W e ρ s) (k : DSs X rest (At G0 H0 G1 W ρ) D) (hs : swapsWith e none pos.line X.env = pure false := by rfl) : DSs X (.Expr e pos :: rest) (At G0 H0 G1 W ρ) D :=
  d_cons (M := At G0 H0 G1 W ρ) (dst_of (ps_expr he hs) fun σ H ⟨G, g, q, c⟩ => ⟨G, c, fun v G' H' g' r => ⟨G', g.trans g', q.trans g'.g, c.step g'⟩⟩) k
theorem d_ret (he : DE X W e ρ s) (k : ∀ v G' H', Gw G0 H0 G' H' → RepS G' v s → D.rt v H') : DSs X (.Return (some e) pos :: rest) (At G0 H0 G1 W ρ) D :=
  d_cons (M := fun _ _ => False) (dst_of (ps_ret he) fun σ H ⟨G, g, q, c⟩ => ⟨G, c, fun v G' H' g' r => k v G' H' (g.trans g') r⟩) ⟨fun _ _ _ _ _ z => z.elim⟩
/-- .. what else is known then -/
theorem d_retW (he : DE X W e ρ s) (k : ∀ v G' H', Gw G0 H0 G' H' → Same G1 G' → W.p G' H' → RepS G' v s → D.rt v H') : DSs X (.Return (some e) pos :: rest) (At G0 H0 G1 W ρ) D :=
  d_cons (M := fun _ _ => False) (dst_of (ps_ret he) fun σ H ⟨G, g, q, c⟩ => ⟨G, c, fun v G' H' g' r => k v G' H' (g.trans g') (q.trans g'.g) (c.step g').w r⟩) ⟨fun _ _ _ _ _ z => z.elim⟩
theorem d_never : DSs X body (fun _ _ => False) D := ⟨fun _ _ _ _ _ z => z.elim⟩
/-- if, both ways to one end -/
theorem d_if {k : Bool} {u w : List Stmt} {M : L2.St → Hp → Prop} (hc : DT X W c ρ k) (h1 : k = true → DSs X u (At G0 H0 G1 W ρ) { D with nx := M }) (h2 : k = false → DSs X w (At G0 H0 G1 W ρ) { D with nx := M }) (kr : DSs X rest M D) : DSs X (.If c u w pos :: rest) (At G0 H0 G1 W ρ) D := by
  refine d_cons (M := M) ?_ kr
  refine dst_of (ps_if (t := tB X u) (u := tB X w) hc pss_tB pss_tB) fun σ H ⟨G, g, q, cx⟩ => ⟨G, cx, fun G' H' g' => ?_⟩
  have at' : At G0 H0 G1 W ρ σ H' := ⟨G', g.trans g', q.trans g'.g, cx.step g'⟩
  cases k with
  | true => exact iteT ⟨_, h1 rfl, at'⟩
  | false => exact iteF ⟨_, h2 rfl, at'⟩
/-- if .. return, without else -/
theorem d_ifr {k : Bool} {u : List Stmt} (hc : DT X W c ρ k) (h1 : k = true → DSs X u (At G0 H0 G1 W ρ) { D with nx := fun _ _ => False }) (kr : k = false → DSs X rest (At G0 H0 G1 W ρ) D) : DSs X (.If c u [] pos :: rest) (At G0 H0 G1 W ρ) D := by
  cases k with
  | true => exact d_if (M := fun _ _ => False) hc h1 (fun z => by cases z) d_never
  | false => exact d_if hc (fun z => by cases z) (fun _ => d_nil fun _ _ p => p) (kr rfl)

/-! ### loops -/
theorem d_for {α β : Type} {tg iter : Expr} (xs : List α) (ea : α → Sl) (I : List α → β → Prop) (W' : β → Res) (ρ' : β → Ro) (ρt : β → α → Ro) {js : List Nat} (b0 : β) (hp : PassesOwn (model X.prog X.w) X.A X.env X.xe) (hc : X.calm = true) (hi : DIg X W tg iter ρ (xs.map ea))
    (h0 : ∀ G H σ, Cxt W ρ G σ H → Cxt (W' b0) (ρ' b0) G σ H) (hI : I [] b0) (hg : ∀ b x, x ∈ xs → DG X (W' b) tg (ρ' b) (ea x) (ρt b x) js)
    (turn : ∀ (G2 : Hp) (bk : L2.St → Hp → Prop) pre x post b, xs = pre ++ x :: post → I pre b → Same G1 G2 → (∃ H2, Same G2 H2 ∧ (W' b0).p G2 H2) →
      DSs X body (At G0 H0 G2 (W' b) (ρt b x)) { D with nx := fun σ H => ∃ b', I (pre ++ [x]) b' ∧ At G0 H0 G2 (W' b') (ρ' b') σ H, ct := fun σ H => ∃ b', I (pre ++ [x]) b' ∧ At G0 H0 G2 (W' b') (ρ' b') σ H, bk := bk })
    (after : ∀ b, I xs b → DSs X rest (At G0 H0 G1 (W' b) (ρ' b)) D) (hs : ∀ x, foldedSetIterable iter X.env x = pure x := by intro _; rfl) : DSs X (.For tg iter body [] pos :: rest) (At G0 H0 G1 W ρ) D := by
  refine d_cons (M := fun σ H => ∃ b, I xs b ∧ At G0 H0 G1 (W' b) (ρ' b) σ H) ?_ (d_ex fun b => d_and (after b))
  refine dst_of (ps_for (g := fun v σ H Q => ∃ b x, x ∈ xs ∧ tG (W' b) (ρ' b) (ea x) (ρt b x) js v σ H Q) (tb := tB X body) hp hc hi ⟨fun pins st σ H v u Q I r ⟨b, x, hx, q⟩ => (hg b x hx).run pins st σ H v u Q I r q⟩ pss_tB hs) fun σ H ⟨G, g, q, cx⟩ => ⟨G, cx, fun J G2 H2 g2 wk => ?_⟩
  have q2 : Same G1 G2 := q.trans g2.g
  have w2 : Same G2 H2 ∧ (W' b0).p G2 H2 := ⟨g2.i, (h0 _ _ _ (cx.step g2)).w⟩
  refine ⟨fun i m σ' H' => m = xs.length - i ∧ i ≤ xs.length ∧ ∃ b, I (xs.take i) b ∧ At G0 H0 G2 (W' b) (ρ' b) σ' H', ⟨xs.length, rfl, Nat.zero_le _, b0, hI, G2, g.trans g2, Same.refl _, h0 _ _ _ (cx.step g2)⟩, ?_⟩
  rintro i m σ' H' ⟨rfl, hle, b, hb, G3, g3, q3, cx3⟩
  by_cases hi' : i < xs.length
  · have hx : xs[i]? = some xs[i] := List.getElem?_eq_getElem hi'
    have htk : xs.take (i + 1) = xs.take i ++ [xs[i]] := List.take_succ_eq_append_getElem hi'
    have hsp : xs = xs.take i ++ xs[i] :: xs.drop (i + 1) := by
      rw [← List.drop_eq_getElem_cons hi', List.take_append_drop]
    refine .inr ⟨wk.go i H' (q3.trans cx3.s) (by rw [List.length_map]; exact hi'), fun σ' H' => ∃ b', I (xs.take i ++ [xs[i]]) b' ∧ At G0 H0 G2 (W' b') (ρ' b') σ' H', fun σ4 H4 ⟨b', hb', at4⟩ => ⟨xs.length - (i + 1), by omega, rfl, hi', b', by rw [htk]; exact hb', at4⟩, fun y H4 hy => ?_⟩
    obtain ⟨G4, g4, r4⟩ := wk.yld i G3 H' y H4 (ea xs[i]) (q3.trans cx3.s) q3 cx3.s (by rw [List.getElem?_map, hx]; rfl) hy
    exact ⟨b, xs[i], List.getElem_mem hi', G4, cx3.step g4, r4, fun σ5 e5 _ => ⟨_, turn G2 _ (xs.take i) xs[i] (xs.drop (i + 1)) b hsp hb q2 ⟨H2, w2.1, w2.2⟩, G4, g3.trans g4, q3.trans g4.g, g4.i, (W' b).mono cx3.s g4 cx3.w, e5⟩⟩
  · have e : xs.take i = xs := List.take_of_length_le (by omega)
    rw [e] at hb
    exact .inl ⟨wk.stop i H' (q3.trans cx3.s) (by rw [List.length_map]; omega), b, hb, G3, g3, q2.trans q3, cx3⟩
theorem d_while {β : Type} (I : β → Prop) (W' : β → Res) (ρ' : β → Ro) (k : β → Bool) (m : β → Nat) (b0 : β) (hp : PassesOwn (model X.prog X.w) X.A X.env X.xe) (h0 : ∀ G H σ, Cxt W ρ G σ H → Cxt (W' b0) (ρ' b0) G σ H) (hI : I b0) (hc : ∀ b, I b → DT X (W' b) c (ρ' b) (k b))
    (turn : ∀ (bk : L2.St → Hp → Prop) b, I b → k b = true → DSs X body (At G0 H0 G1 (W' b) (ρ' b)) { D with nx := fun σ H => ∃ b', (I b' ∧ m b' < m b) ∧ At G0 H0 G1 (W' b') (ρ' b') σ H, ct := fun σ H => ∃ b', (I b' ∧ m b' < m b) ∧ At G0 H0 G1 (W' b') (ρ' b') σ H, bk := bk })
    (after : ∀ b, I b → k b = false → DSs X rest (At G0 H0 G1 (W' b) (ρ' b)) D) : DSs X (.While c body [] pos :: rest) (At G0 H0 G1 W ρ) D := by
  refine d_cons (M := fun σ H => ∃ b, (I b ∧ k b = false) ∧ At G0 H0 G1 (W' b) (ρ' b) σ H) ?_ (d_ex fun b => d_and fun h => after b h.1 h.2)
  refine dst_of (ps_while (tc := fun σ H Q => ∃ b, I b ∧ tT (W' b) (ρ' b) (k b) σ H Q) (tb := tB X body) hp ⟨fun pins st σ H Q I ⟨b, hb, q⟩ => (hc b hb).run pins st σ H Q I q⟩ pss_tB) fun σ H ⟨G, g, q, cx⟩ => ⟨fun n σ' H' => ∃ b, I b ∧ n = m b ∧ At G0 H0 G1 (W' b) (ρ' b) σ' H', ⟨m b0, b0, hI, rfl, G, g, q, h0 _ _ _ cx⟩, ?_⟩
  rintro n σ' H' ⟨b, hb, rfl, G2, g2, q2, cx2⟩
  refine ⟨b, hb, G2, cx2, fun G3 H3 g3 => ?_⟩
  have at3 : At G0 H0 G1 (W' b) (ρ' b) σ' H3 := ⟨G3, g2.trans g3, q2.trans g3.g, cx2.step g3⟩
  cases hk : k b with
  | true => exact iteT ⟨fun σ4 H4 => ∃ b', (I b' ∧ m b' < m b) ∧ At G0 H0 G1 (W' b') (ρ' b') σ4 H4, fun σ4 H4 ⟨b', ⟨h1, h2⟩, h3⟩ => ⟨m b', h2, b', h1, rfl, h3⟩, _, turn _ b hb hk, at3⟩
  | false => exact iteF ⟨b, ⟨hb, hk⟩, at3⟩

/-! ### lists of one's own -/
def Own (p : Addr) (ds : List PyData) : Res := ⟨fun G H => G p = none ∧ ∃ xs, H p = some (.lst xs) ∧ RpAll G xs ds, fun s g ⟨h1, xs, h2, h3⟩ => ⟨g.nosh h2 (fun _ z => nomatch z) h1, xs, g.h p _ h2, rpAll_mono g.g _ _ h3⟩⟩
theorem own_and {A : Res} {p : Addr} {ds : List PyData} : ∀ G H, (A.and (Own p ds)).p G H → ∃ xs, H p = some (.lst xs) ∧ RpAll G xs ds := fun G H h => h.2.2
/-- A does not lean on p -/
def Frm (A : Res) (p : Addr) : Prop := ∀ G H o, Same G H → G p = none → A.p G H → A.p G (upd H p o)
theorem frm_R0 {p : Addr} : Frm R0 p := fun _ _ _ _ _ _ => trivial
theorem frm_and {A B : Res} {p : Addr} (h1 : Frm A p) (h2 : Frm B p) : Frm (A.and B) p := fun G H o s g h => ⟨h1 G H o s g h.1, h2 G H o s g h.2⟩
theorem frm_own {p q : Addr} {ds : List PyData} (h : q ≠ p) : Frm (Own q ds) p := fun G H o s g ⟨h1, xs, h2, h3⟩ => ⟨h1, xs, by rw [upd_ne h]; exact h2, h3⟩
/-- x = a new list: it is this body's own -/
theorem d_ownN {i : Nat} {ds : List PyData} (h : PS X st (tAsg (tN W ρ ds) (gName i))) (k : ∀ p, H0 p = none → G1 p = none → (∀ q : Addr, (∀ G H, W.p G H → ∃ o, H q = some o) → q ≠ p) → DSs X rest (At G0 H0 G1 (W.and (Own p ds)) (ρ.set i (some (.v (.ref p))))) D) : DSs X (st :: rest) (At G0 H0 G1 W ρ) D := by
  refine d_cons (M := fun σ H => ∃ p, (H0 p = none ∧ G1 p = none ∧ ∀ q : Addr, (∀ G H, W.p G H → ∃ o, H q = some o) → q ≠ p) ∧ At G0 H0 G1 (W.and (Own p ds)) (ρ.set i (some (.v (.ref p)))) σ H) ?_ (d_ex fun p => d_and fun h => k p h.1 h.2.1 h.2.2)
  refine dst_of h fun σ H ⟨G, g, q, c⟩ => ⟨G, c, fun p xs G' H' g' hp hg hh hr => ⟨p, ⟨g.h.free hp, (q.trans g'.g).free hg, fun z hz e => ?_⟩, G', g.trans g', q.trans g'.g, g'.i, ⟨W.mono c.s g' c.w, hg, xs, hh, hr⟩, (c.e.mono g'.g).set (s := .v (.ref p)) (v := .ref p) rfl i⟩⟩
  obtain ⟨o, ho⟩ := hz G H c.w
  rw [e, hp] at ho
  cases ho
/-- x = a new list, shared at once -/
theorem d_setN {i : Nat} {ds : List PyData} (h : PS X st (tAsg (tN W ρ ds) (gName i))) (k : DSs X rest (At G0 H0 G1 W (ρ.set i (some (.d (.list ds))))) D) : DSs X (st :: rest) (At G0 H0 G1 W ρ) D :=
  d_cons (M := At G0 H0 G1 W (ρ.set i (some (.d (.list ds))))) (dst_of h fun σ H ⟨G, g, q, c⟩ => ⟨G, c, fun p xs G' H' g' hp hg hh hr => by
    have g2 := g'.share hp hh hg
    exact ⟨_, g.trans g2, q.trans g2.g, g2.i, W.mono c.s g2 c.w, (c.e.mono g2.g).set (s := .d (.list ds)) (v := .ref p) (.lst upd_rd (rpAll_mono (same_upd hg) _ _ hr)) i⟩⟩) k
theorem d_letN {α : Type} [DecidableEq α] [Datum α] {i : Nat} {xs : List α} (h : PS X st (tAsg (tN W ρ (xs.map Datum.toD)) (gName i))) (k : ∀ z : List α, z = xs → DSs X rest (At G0 H0 G1 W (ρ.set i (some (En z)))) D) : DSs X (st :: rest) (At G0 H0 G1 W ρ) D := d_setN h (k xs rfl)
theorem an_set {i : Nat} {x : Str} {p' : Pos} {ds : List PyData} (hN : X.N.Nodup) (he : DN X W e ρ ds) (hi : X.N[i]? = some x := by rfl) (hx : Loc X.env.scope x := by first | exact Or.inl rfl | exact Or.inr rfl)
    (hs : swapsWith e (some (.Name x p')) pos.line X.env = pure false := by rfl) (hf : X.fn x = true ∨ X.env.scope.names.lookup x = some .local := by first | exact Or.inl rfl | exact Or.inr rfl) : PS X (.Assign [.Name x p'] e pos) (tAsg (tN W ρ ds) (gName i)) := ps_set hN hi hx he hs hf
/-- xs.append(e) -/
theorem d_app {A : Res} {i : Nat} {x : Str} {p : Addr} {d : PyData} {ds : List PyData} {ap px cp : Pos} (hr : ρ[i]? = some (some (.v (.ref p)))) (hH : H0 p = none) (hG : G1 p = none) (hF : Frm A p) (he : DE X (A.and (Own p ds)) e ρ (.d d)) (hz : ds.length < sizeLine)
    (k : DSs X rest (At G0 H0 G1 (A.and (Own p (ds ++ [d]))) ρ) D) (hN : X.N[i]? = some x := by rfl) (hv : Vis X.env.scope x := by first | exact Or.inl rfl | exact Or.inr (Or.inl rfl) | exact Or.inr (Or.inr rfl)) (hd : (x == ("__debug__" : Str)) = false := by decide) (hcd : (x == ("__classdict__" : Str)) = false := by decide)
    (hst : starEach [e] X.env = (false, eval e X.env) :: starEach [] X.env := by rfl)
    (hm : ∀ {te : TE}, PA X [e] (tCons te tNil) → PE X (.Call (.Attribute (.Name x px) "append" ap) [e] [] cp) (tBM X.K "list" rAppend (tVar i) (tCons te tNil)) := by exact fun ha => pe_bm PySem.F.plainAttrs_list PySem.F.slot_list_append PySem.F.type_list_append mt_append (pe_var rfl (by first | exact Or.inl rfl | exact Or.inr (Or.inl rfl) | exact Or.inr (Or.inr rfl))) ha)
    (hs : swapsWith (.Call (.Attribute (.Name x px) "append" ap) [e] [] cp) none pos.line X.env = pure false := by rfl) : DSs X (.Expr (.Call (.Attribute (.Name x px) "append" ap) [e] [] cp) pos :: rest) (At G0 H0 G1 (A.and (Own p ds)) ρ) D := by
  refine d_cons (dst_of (ps_expr (hm (pa_cons he pa_nil hst)) hs) fun σ H ⟨G, g, q, c⟩ => ?_) k
  obtain ⟨v, h1, h2⟩ := c.e.2 i _ hr
  have ev : v = .ref p := h2
  subst ev
  obtain ⟨hA, hg, xs, hh, hx⟩ := id c.w
  refine ⟨.ref p, h1, .inl ⟨rfl, xs, .inl (.inl hh)⟩, G, c, fun v G' H' g' r => ⟨p, xs, v, rfl, rfl, g'.h p _ hh, by rw [hx.length]; exact hz, ?_⟩⟩
  obtain ⟨hA', hg', xs', hh', hx'⟩ := (c.step g').w
  have e2 := (g'.h p _ hh).symm.trans hh'
  cases e2
  have gg := g.trans g'
  refine ⟨G', ⟨gg.g, fun b o z => ?_, fun b o z => ?_, gg.n⟩, q.trans g'.g, fun b o z => ?_, ⟨hF _ _ _ g'.i hg' hA', hg', _, upd_same, hx'.append (.cons r .nil)⟩, c.e.mono g'.g⟩
  · rw [upd_ne (ne_of_none z hH)]
    exact gg.h b o z
  · rw [upd_ne (ne_of_none z hg')]
    exact gg.i b o z
  · rw [upd_ne (ne_of_none z hg')]
    exact g'.i b o z
/-- the list is complete: from now on it is shared -/
theorem d_frz {A : Res} {i : Nat} {p : Addr} {ds : List PyData} (hr : ρ[i]? = some (some (.v (.ref p)))) (hH : H0 p = none) (hG : G1 p = none) (hF : ∀ G H o, Same G H → H p = some o → G p = none → A.p G H → A.p (upd G p o) H) (k : DSs X body (At G0 H0 G1 A (ρ.set i (some (.d (.list ds))))) D) :
    DSs X body (At G0 H0 G1 (A.and (Own p ds)) ρ) D := d_imp k fun σ H ⟨G, g, q, c⟩ => by
  obtain ⟨hA, hg, xs, hh, hx⟩ := c.w
  have s' : Same (upd G p (.lst xs)) H := fun b o z => by
    by_cases hb : b = p
    · subst hb
      rw [upd_same] at z
      rw [← z]
      exact hh
    · rw [upd_ne hb] at z
      exact c.s b o z
  refine ⟨upd G p (.lst xs), ⟨g.g.trans (same_upd hg), g.h, s', fun b o z n => ?_⟩, q.trans (same_upd hg), s', hF G H _ c.s hh hg hA, ?_⟩
  · by_cases hb : b = p
    · subst hb
      exact .inl hH
    · rw [upd_ne hb] at z
      exact g.n b o z n
  · obtain ⟨v, h1, h2⟩ := c.e.2 i _ hr
    have ev : v = .ref p := h2
    subst ev
    have e2 := (c.e.mono (same_upd (o := .lst xs) hg)).set (j := i) (v := .ref p) (s := .d (.list ds)) (.lst upd_rd (rpAll_mono (same_upd hg) _ _ hx))
    refine ⟨by rw [e2.1, List.length_set], fun j t z => ?_⟩
    obtain ⟨v2, h3, h4⟩ := e2.2 j t z
    refine ⟨v2, ?_, h4⟩
    by_cases hj : i = j
    · subst hj
      rw [List.getElem?_set_self (by
        have := List.getElem?_eq_some_iff.mp h1
        exact this.1)] at h3
      rw [h1]
      exact h3
    · rw [List.getElem?_set_ne hj] at h3
      exact h3
theorem frz_R0 {p : Addr} : ∀ (G H : Hp) o, Same G H → H p = some o → G p = none → R0.p G H → R0.p (upd G p o) H := fun _ _ _ _ _ _ _ => trivial
end

section
variable {X : Cx} {W : Res} {ρ : Ro} {pos : Pos} {s : Sl}
/-- the name in the i-th slot -/
theorem dv (i : Nat) {x : Str} (hr : ρ[i]? = some (some s)) (hN : X.N[i]? = some x := by rfl)
    (hv : Vis X.env.scope x := by first | exact Or.inl rfl | exact Or.inr (Or.inl rfl) | exact Or.inr (Or.inr rfl)) (hd : (x == ("__debug__" : Str)) = false := by decide) (hcd : (x == ("__classdict__" : Str)) = false := by decide) : DE X W (.Name x pos) ρ s := de_var hr hN hv hd hcd
end
/-! ### defs -/
/-- a promise by data: R arguments, what is asked of the heaps, the result -/
def SpD (R : List Sl → Res → Sl → Prop) : Sp := fun vs H Q _ => ∃ G ss W r, Same G H ∧ W.p G H ∧ RepL G vs ss ∧ R ss W r ∧ ∀ v G' H', Gw G H G' H' → RepS G' v r → Q v H'
def startR (N : List Str) (ss : List Sl) : Ro := ss.map some ++ List.replicate (N.length - ss.length) none
theorem repl_get {G : Hp} : ∀ {vs : List V} {ss : List Sl} {i : Nat} {s : Sl}, RepL G vs ss → ss[i]? = some s → ∃ v, vs[i]? = some v ∧ RepS G v s
  | _, _, i, s, .nil, h => by simp at h
  | _, _, 0, s, .cons h t, e => by
    simp at e
    subst e
    exact ⟨_, rfl, h⟩
  | _, _, i + 1, s, .cons h t, e => repl_get (i := i) t (by simpa using e)
theorem env_start {G : Hp} {N : List Str} {vs : List V} {ss : List Sl} (h : RepL G vs ss) : EnvR G (L2.start N vs) (startR N ss) := by
  have hl := h.length
  refine ⟨by unfold startR L2.start; rw [List.length_append, List.length_append, List.length_map, List.length_map, hl, List.length_replicate, List.length_replicate], fun i s q => ?_⟩
  unfold startR at q
  by_cases hi : i < ss.length
  · rw [List.getElem?_append_left (by rw [List.length_map]; exact hi), List.getElem?_map] at q
    cases e : ss[i]? with
    | none =>
      rw [e] at q
      cases q
    | some t =>
      rw [e] at q
      cases q
      obtain ⟨v, h1, h2⟩ := repl_get h e
      refine ⟨v, ?_, h2⟩
      unfold L2.start
      rw [List.getElem?_append_left (by rw [List.length_map, hl]; exact hi), List.getElem?_map, h1]
      rfl
  · rw [List.getElem?_append_right (by rw [List.length_map]; omega), List.getElem?_replicate] at q
    split at q <;> cases q
section
variable {P : Program} {w : World} {K : PySem.W.Frag} {mg : Str → Option Value} {base : Heap} {CX : CXT}
/-- the ends of a def that hands back r -/
abbrev rtD (G0 H0 : Hp) (r : Sl) : VK := fun v H' => ∃ G', Gw G0 H0 G' H' ∧ RepS G' v r
theorem fn_d {x qual : Str} {params : Arguments} {body : List Stmt} {scope : Scope} {dvs : List V} {kws : List (Str × V)} {f : Addr} {fd : FuncData} {N ps : List Str} {k : Nat} {R : List Sl → Res → Sl → Prop} (F : FunD K x qual params body scope dvs kws f fd) (S : FnScope N ps scope)
    (len : ∀ ss W r, R ss W r → ss.length = ps.length)
    (hb : ∀ (cdv : Value) (A : Around) (outer : List Env) (s : Shared) (G0 H0 : Hp) (E : XK) ss W r, Room k (A.deeper (envOfC qual scope s.heap.objs.size f cdv)) → R ss W r →
      DSs (cxOf L2.CX0 P w K mg base N qual scope f cdv A outer s H0 E).nox body (At G0 H0 G0 W (startR N ss)) { nx := fun _ H' => ∃ G', Gw G0 H0 G' H' ∧ RepS G' .non r, rt := rtD G0 H0 r }) : FnOk P w K mg base L2.CX0 (k + 1) f fd ps (SpD R) := by
  refine FunD.ok F S (fun vs H Q E ⟨G, ss, W, r, _, _, h, hR, _⟩ => by rw [h.length]; exact len _ _ _ hR) fun cdv A outer s H vs Q E hr ⟨G, ss, W, r, hs, hw, h, hR, k⟩ => ?_
  refine ⟨tB _ body, PSs.nox (X := cxOf L2.CX0 P w K mg base N qual scope f cdv A outer s H E) (t := fun D σ H' => ∃ P', DSs (cxOf L2.CX0 P w K mg base N qual scope f cdv A outer s H E).nox body P' D ∧ P' σ H') ⟨fun pins s σ H D I ⟨P, h, p⟩ => h.run pins s σ H I p⟩ |> fun z => ⟨fun pins s2 σ2 H2 D2 I2 ⟨P2, h2, p2⟩ => h2.run pins s2 σ2 H2 I2 p2⟩, ?_⟩
  have d := hb cdv A outer s G H E ss W r hr hR
  refine ⟨At G H G W (startR N ss), ⟨fun pins s2 σ2 H2 I2 p2 => ?_⟩, G, .refl hs, Same.refl _, hs, hw, env_start h⟩
  refine wpAny_mono (d.run pins s2 σ2 H2 (I2.wish _) p2) (fun fl s3 q => ?_) fun _ _ z => False.elim z
  have q' := q.unwish
  cases fl with
  | next =>
    obtain ⟨σ3, H3, I3, G3, g3, r3⟩ := q'
    exact ⟨σ3, H3, I3, k _ G3 H3 g3 r3⟩
  | ret u =>
    obtain ⟨v3, σ3, H3, I3, rl, G3, g3, r3⟩ := q'
    exact ⟨v3, σ3, H3, I3, rl, k _ G3 H3 g3 r3⟩
  | brk => exact q'
  | cont => exact q'
/-- a def of the module: its name, level, parameters, promise -/
def FnG (P : Program) (w : World) (K : PySem.W.Frag) (mg : Str → Option Value) (base : Heap) (k : Nat) (x : Str) (ps : List Str) (R : List Sl → Res → Sl → Prop) : Prop :=
  ∃ f fd, mg x = some (.ref f) ∧ PySem.W.keepIn K (.ref f) = true ∧ Binds K fd ps [] ∧ FnOk P w K mg base L2.CX0 k f fd ps (SpD R)
/-- a method of the class at C -/
def MtG (P : Program) (w : World) (K : PySem.W.Frag) (mg : Str → Option Value) (base : Heap) (k : Nat) (C : Addr) (m : Str) (ps : List Str) (R : List Sl → Res → Sl → Prop) : Prop :=
  ∃ f fd, Meth K C m f ∧ Binds K fd ps [] ∧ FnOk P w K mg base L2.CX0 k f fd ps (SpD R)
end
section
variable {X : Cx} {W : Res} {ρ : Ro} {pos fp apos : Pos} {e o : Expr} {es : List Expr} {ss : List Sl} {r : Sl} {k j : Nat} {x m : Str} {ps : List Str} {R : List Sl → Res → Sl → Prop} {C p : Addr}
theorem de_call {W0 : Res} (F : FnG X.prog X.w X.K X.mg X.base j x ps R) (hr : Room k X.A) (ha : DA X W (e :: es) ρ ss) (hW : ∀ G H, Same G H → W.p G H → W0.p G H) (hR : R ss W0 r) (hj : j ≤ k := by decide) (hg : Gl X x := by rfl) (hdb : (x == ("__debug__" : Str)) = false := by decide)
    (he : starEach (e :: es) X.env = (false, eval e X.env) :: starEach es X.env := by rfl) (hpl : (backTo pos (starEach es X.env)).any (·.1) = false := by rfl) : DE X W (.Call (.Name x fp) (e :: es) [] pos) ρ r := by
  obtain ⟨f, fd, h1, h2, h3, h4⟩ := F
  exact pe_imp (pe_call h4 (hr.mono hj) hg h1 h2 h3 .nil L2.pass0 ha hdb he hpl) fun σ H Q ⟨G, c, q⟩ => ⟨G, c, fun vs G1 H1 g1 r1 => by
    show SpD R (vs ++ []) H1 Q _
    rw [List.append_nil]
    exact ⟨G1, ss, W0, r, g1.i, hW _ _ g1.i (c.step g1).w, r1, hR, fun v G2 H2 g2 r2 => q v G2 H2 (g1.trans g2) r2⟩⟩
/-- o.m(e, ..) of an object of the class at C -/
theorem de_meth {W0 : Res} {pl : Sem Bool} (F : MtG X.prog X.w X.K X.mg X.base j C m ps R) (cl : Cls X.K C) (hr : Room k X.A) (ho : DE X W o ρ (.v (.ref p))) (hob : ∀ G H, Same G H → W.p G H → ∃ dx fs, H p = some (.ins C dx fs) ∧ fs.lookup m = none) (ha : DA X W (e :: es) ρ ss) (hW : ∀ G H, Same G H → W.p G H → W0.p G H) (hR : R (.v (.ref p) :: ss) W0 r) (hj : j ≤ k := by decide)
    (he : starEach (e :: es) X.env = (false, eval e X.env) :: starEach es X.env := by rfl) (hpl : (backTo pos (starEach es X.env)).any (·.1) = false := by rfl)
    (ht : eval (.Call (.Attribute o m apos) (e :: es) [] pos) X.env = (do
      let ov ← eval o X.env
      standAt apos.atName
      let (f, first) ← holding [ov] (getMethod ov m pl)
      callWith pos f first (backTo pos (starEach (e :: es) X.env)) (backToKw pos (keywordEach [] X.env))) := by rfl) : DE X W (.Call (.Attribute o m apos) (e :: es) [] pos) ρ r := by
  obtain ⟨f, fd, h1, h3, h4⟩ := F
  exact pe_imp (pe_meth (pl := pl) ho cl h1 h4 (hr.mono hj) h3 .nil L2.pass0 ha he hpl ht) fun σ H Q ⟨G, c, q⟩ => ⟨G, c, fun v G1 H1 g1 r1 => by
    have ev : v = .ref p := r1
    subst ev
    obtain ⟨dx, fs, h5, h6⟩ := hob G1 H1 g1.i (c.step g1).w
    exact ⟨p, dx, fs, rfl, h5, h6, G1, c.step g1, fun vs G2 H2 g2 r2 => by
      show SpD R (V.ref p :: (vs ++ [])) H2 Q _
      rw [List.append_nil]
      exact ⟨G2, .v (.ref p) :: ss, W0, r, g2.i, hW _ _ g2.i ((c.step g1).step g2).w, .cons rfl r2, hR, fun v G3 H3 g3 r3 => q v G3 H3 ((g1.trans g2).trans g3) r3⟩⟩⟩
theorem de_meth0 {W0 : Res} {pl : Sem Bool} (F : MtG X.prog X.w X.K X.mg X.base j C m ps R) (cl : Cls X.K C) (hr : Room k X.A) (ho : DE X W o ρ (.v (.ref p))) (hob : ∀ G H, Same G H → W.p G H → ∃ dx fs, H p = some (.ins C dx fs) ∧ fs.lookup m = none) (hW : ∀ G H, Same G H → W.p G H → W0.p G H) (hR : R [.v (.ref p)] W0 r) (hj : j ≤ k := by decide)
    (ht : eval (.Call (.Attribute o m apos) [] [] pos) X.env = (do
      let ov ← eval o X.env
      standAt apos.atName
      let (f, first) ← holding [ov] (getMethod ov m pl)
      callWith pos f first (backTo pos (starEach [] X.env)) (backToKw pos (keywordEach [] X.env))) := by rfl) : DE X W (.Call (.Attribute o m apos) [] [] pos) ρ r := by
  obtain ⟨f, fd, h1, h3, h4⟩ := F
  exact pe_imp (pe_meth0 (pl := pl) ho cl h1 h4 (hr.mono hj) h3 .nil L2.pass0 ht) fun σ H Q ⟨G, c, q⟩ => ⟨G, c, fun v G1 H1 g1 r1 => by
    have ev : v = .ref p := r1
    subst ev
    obtain ⟨dx, fs, h5, h6⟩ := hob G1 H1 g1.i (c.step g1).w
    exact ⟨p, dx, fs, rfl, h5, h6, G1, [.v (.ref p)], W0, r, g1.i, hW _ _ g1.i (c.step g1).w, .cons rfl .nil, hR, fun v G3 H3 g3 r3 => q v G3 H3 (g1.trans g3) r3⟩⟩
/-- a field of an object -/
theorem de_fld {f : Str} {s : Sl} (cl : Cls X.K C) (nf : NoAttr X.K C f) (ho : DE X W o ρ (.v (.ref p))) (hob : ∀ G H, Same G H → W.p G H → ∃ dx fs v, H p = some (.ins C dx fs) ∧ fs.lookup f = some v ∧ RepS G v s) (hb : attributeBase o f X.env (eval o X.env) = eval o X.env := by rfl) : DE X W (.Attribute o f pos) ρ s :=
  pe_imp (pe_fld ho hb) fun σ H Q ⟨G, c, q⟩ => ⟨G, c, fun v G1 H1 g1 r1 => by
    have ev : v = .ref p := r1
    subst ev
    obtain ⟨dx, fs, v, h5, h6, h7⟩ := hob G1 H1 g1.i (c.step g1).w
    exact ⟨p, C, dx, fs, v, rfl, h5, cl, nf, h6, q v G1 H1 g1 h7⟩⟩
end
end DL

/-! DL6: the rules once more, over Lean's own types. -/
namespace DL
open PySem PySem.Spec L2
open PyProof.Rows hiding St
open PySem.W (Datum DatumOrd Tup T3 Holds HoldAll EachIs)
section
variable {X : Cx} {W : Res} {ρ : Ro} {pos fp : Pos} {e a b c tg : Expr} {α β : Type} [DecidableEq α] [Datum α] [DecidableEq β] [Datum β] {xs ys : List α}
/-- a list whose items are of one type: new, or whosever -/
abbrev TN (X : Cx) (W : Res) (e : Expr) (ρ : Ro) (xs : List α) : Prop := DN X W e ρ (xs.map Datum.toD)
abbrev TS (X : Cx) (W : Res) (e : Expr) (ρ : Ro) (xs : List α) : Prop := DS X W e ρ (xs.map Datum.toD)
theorem te_n (h : TN X W e ρ xs) : DE X W e ρ (En xs) := de_n h
theorem ts_n (h : TN X W e ρ xs) : TS X W e ρ xs := ds_n h
theorem ts_d (h : DE X W e ρ (En xs)) : TS X W e ρ xs := ds_d h
theorem te_len (hm : X.mg "len" = none) (ha : TS X W a ρ xs) (hg : Gl X "len" := by rfl) (sa : SA1 X a pos := by exact ⟨rfl, rfl⟩) : DE X W (.Call (.Name "len" fp) [a] [] pos) ρ (En (xs.length : Int)) := by
  have h := de_len (fp := fp) hm ha hg sa
  rw [List.length_map] at h
  exact h
theorem tn_nil {es : List Expr} (he : es = []) : TN X W (.List es pos) ρ ([] : List α) := by
  subst he
  exact dn_lst da_nil .nil
theorem tn_1 {x : α} (h : DE X W a ρ (En x)) (hs : starEach [a] X.env = (false, eval a X.env) :: starEach [] X.env := by rfl) : TN X W (.List [a] pos) ρ [x] := dn_lst (da_cons h da_nil hs) (.cons .nil)
theorem tn_2 {x y : α} (h : DE X W a ρ (En x)) (h2 : DE X W b ρ (En y)) (hs : starEach [a, b] X.env = (false, eval a X.env) :: starEach [b] X.env := by rfl) (hs2 : starEach [b] X.env = (false, eval b X.env) :: starEach [] X.env := by rfl) : TN X W (.List [a, b] pos) ρ [x, y] := dn_lst (da_cons h (da_cons h2 da_nil hs2) hs) (.cons (.cons .nil))
/-- a display of any number of items -/
inductive TA (X : Cx) (W : Res) (ρ : Ro) : List Expr → List α → Prop
  | nil : TA X W ρ [] []
  | cons {e : Expr} {es : List Expr} {x : α} {xs : List α} : DE X W e ρ (En x) → TA X W ρ es xs → starEach (e :: es) X.env = (false, eval e X.env) :: starEach es X.env → TA X W ρ (e :: es) (x :: xs)
theorem TA.da : ∀ {es : List Expr} {xs : List α}, TA X W ρ es xs → ∃ ss, DA X W es ρ ss ∧ DatL ss (xs.map Datum.toD)
  | _, _, .nil => ⟨[], da_nil, .nil⟩
  | _, _, .cons h t hs => by
    obtain ⟨ss, h1, h2⟩ := t.da
    exact ⟨_, da_cons h h1 hs, .cons h2⟩
theorem tn_k {es : List Expr} (h : TA X W ρ es xs) (hl : xs.length ≤ 1000 := by first | decide | (simp only [List.length_cons, List.length_nil]; omega)) : TN X W (.List es pos) ρ xs := by
  obtain ⟨ss, h1, h2⟩ := h.da
  exact dn_lst h1 h2 (by rw [List.length_map]; exact hl)
theorem te_tup {es : List Expr} {k : Nat} (h : TA X W ρ es xs) (hl : xs.length ≤ 1000 := by first | decide | (simp only [List.length_cons, List.length_nil]; omega)) : DE X W (.Tuple es k pos) ρ (En (Tup.mk xs)) := by
  obtain ⟨ss, h1, h2⟩ := h.da
  exact de_tupL h1 h2 (by rw [List.length_map]; exact hl)
theorem tn_cat (ha : TS X W a ρ xs) (hb : TS X W b ρ ys) (hl : xs.length + ys.length ≤ 16777216) : TN X W (.BinOp a .Add b pos) ρ (xs ++ ys) := by
  have h := dn_cat (pos := pos) ha hb (by rw [List.length_map, List.length_map, sizeLine_eq]; exact hl)
  rw [← List.map_append] at h
  exact h
/-- xs, i times -/
def rep (i : Int) (xs : List α) : List α := (List.replicate i.toNat xs).flatten
theorem tn_rep {i : Int} (ha : TN X W a ρ xs) (hb : DE X W b ρ (En i)) (hi : i ≤ 1000000) (hl : xs.length ≤ 10) (h0 : -1000000 ≤ i) : TN X W (.BinOp a .Mult b pos) ρ (rep i xs) := by
  have h := dn_rep (pos := pos) ha hb (by omega) (by
    rw [List.length_map, sizeLine_eq]
    have h1 : xs.length * i.toNat ≤ 10 * 1000000 := Nat.mul_le_mul hl (by omega)
    omega)
  have e : (List.replicate i.toNat (xs.map Datum.toD)).flatten = (rep i xs).map Datum.toD := by
    unfold rep
    rw [List.map_flatten, List.map_replicate]
  rw [e] at h
  exact h
theorem tn_sl {lo hi : Option Expr} {l u : Option Int} {p2 : Pos} (ha : TS X W a ρ xs) (hl : DO X W lo ρ l) (hu : DO X W hi ρ u) : TN X W (.Subscript a (.Slice lo hi none p2) pos) ρ (cutL xs l u) := by
  have h := dn_sl (pos := pos) (p2 := p2) ha hl hu
  rw [cutL_map] at h
  exact h
theorem tn_list (hm : X.mg "list" = none) (ha : TS X W a ρ xs) (hg : Gl X "list" := by rfl) (sa : SA1 X a pos := by exact ⟨rfl, rfl⟩) : TN X W (.Call (.Name "list" fp) [a] [] pos) ρ xs := dn_list hm ha hg sa
/-! what is walked -/
theorem map_sls (xs : List α) : sls (xs.map Datum.toD) = xs.map fun x => En x := by
  unfold sls
  rw [List.map_map]
  rfl
theorem ti_list (h : DE X W e ρ (En xs)) : DIg X W tg e ρ (xs.map fun x => En x) := by
  have q := dig_list (tg := tg) (ds := xs.map Datum.toD) h
  rw [map_sls] at q
  exact q
theorem ti_listS (h : TS X W e ρ xs) : DIh X W tg e ρ (xs.map fun x => En x) := by
  have q := dih_list (tg := tg) h
  rw [map_sls] at q
  exact q
theorem ti_tup {t : Tup α} (h : DE X W e ρ (En t)) : DIg X W tg e ρ (t.items.map fun x => En x) := by
  have q := dig_tup (tg := tg) (ds := t.items.map Datum.toD) h
  rw [map_sls] at q
  exact q
def enumF (n : Nat) : List α → List (Int × α)
  | [] => []
  | x :: xs => ((n : Int), x) :: enumF (n + 1) xs
theorem enm_map : ∀ (n : Nat) (xs : List α), enm n (xs.map Datum.toD) = (enumF n xs).map fun p => En p
  | _, [] => rfl
  | n, x :: xs => by
    rw [List.map_cons, enm, enumF, List.map_cons, enm_map]
    rfl
theorem ti_enum {elts : List Expr} {kk : Nat} {tpos : Pos} (hm : X.mg "enumerate" = none) (ha : DE X W a ρ (En xs)) (hg : Gl X "enumerate" := by rfl) (hs : starEach [a] X.env = [(false, eval a X.env)] := by rfl) (hs2 : starEach [a] X.env = (false, eval a X.env) :: starEach [] X.env := by rfl) :
    DIg X W (.Tuple elts kk tpos) (.Call (.Name "enumerate" fp) [a] [] pos) ρ ((enumF 0 xs).map fun p => En p) := by
  have q := dig_enum (fp := fp) (pos := pos) (elts := elts) (kk := kk) (tpos := tpos) (ds := xs.map Datum.toD) hm ha hg hs hs2
  rw [enm_map] at q
  exact q
/-! comprehensions -/
variable {γ : Type}
theorem filter_all (zs : List γ) : zs.filter (fun _ => true) = zs := List.filter_eq_self.mpr fun _ _ => rfl
theorem dts_nil {W : Res} {ρ : Ro} : PTs X [] (tT W ρ true) := ⟨fun pins s σ H Q I ⟨G, c, k⟩ => pts_nil.run pins s σ H Q I (k G H (.refl c.s))⟩
theorem dts_one {k : Bool} (h : DT X W e ρ k) : PTs X [e] (tT W ρ k) := pts_one h
/-- [f(x) for x in xs if p(x)] -/
theorem tn_lc {elt iter : Expr} {ifs : List Expr} {scope : Scope} (own : List (Str × Nat)) (zs : List γ) (ea : γ → Sl) (p : γ → Bool) (f : γ → β) (ρ' : γ → Ro) (hc : X.calm = true) (hN : X.N.Nodup) (hi : DIh X W tg iter ρ (zs.map ea)) (ok : BlkOk X.N X.env.scope scope own)
    (hg : ∀ x, x ∈ zs → ∀ (s : Shared) (H : Hp) (C : Addr) (cl : List (Str × Addr)) (fp : List Addr), DG (X.blk s H scope (compEnvC scope cl C X.env) fp) W tg (wipeR ρ (own.map (·.2))) (ea x) (ρ' x) (own.map (·.2)))
    (ht : ∀ x, x ∈ zs → ∀ (s : Shared) (H : Hp) (C : Addr) (cl : List (Str × Addr)) (fp : List Addr), PTs (X.blk s H scope (compEnvC scope cl C X.env) fp) ifs (tT W (ρ' x) (p x)))
    (he : ∀ x, x ∈ zs → p x = true → ∀ (s : Shared) (H : Hp) (C : Addr) (cl : List (Str × Addr)) (fp : List Addr), DE (X.blk s H scope (compEnvC scope cl C X.env) fp) W elt (ρ' x) (En (f x)))
    (hs : ∀ x, foldedSetIterable iter X.env x = pure x := by intro _; rfl) : TN X W (.ListComp elt [⟨tg, iter, ifs, 0⟩] scope pos) ρ ((zs.filter p).map f) := by
  have h := dn_lc (pos := pos) zs ea p (fun x => Datum.toD (f x)) ρ' hc hN hi ok hg ht he hs
  have e : (zs.filter p).map (fun x => Datum.toD (f x)) = ((zs.filter p).map f).map Datum.toD := by
    rw [List.map_map]
    rfl
  rw [e] at h
  exact h
/-- y = [..], y a local -/
theorem an_lc {i : Nat} {y : Str} {py spos : Pos} {elt iter : Expr} {ifs : List Expr} {scope : Scope} (own : List (Str × Nat)) (zs : List γ) (ea : γ → Sl) (p : γ → Bool) (f : γ → β) (ρ' : γ → Ro) (hc : X.calm = true) (hN : X.N.Nodup) (hi : DIh X W tg iter ρ (zs.map ea)) (ok : BlkOk X.N X.env.scope scope own)
    (hg : ∀ x, x ∈ zs → ∀ (s : Shared) (H : Hp) (C : Addr) (cl : List (Str × Addr)) (fp : List Addr), DG (X.blk s H scope (compEnvC scope cl C X.env) fp) W tg (wipeR ρ (own.map (·.2))) (ea x) (ρ' x) (own.map (·.2)))
    (ht : ∀ x, x ∈ zs → ∀ (s : Shared) (H : Hp) (C : Addr) (cl : List (Str × Addr)) (fp : List Addr), PTs (X.blk s H scope (compEnvC scope cl C X.env) fp) ifs (tT W (ρ' x) (p x)))
    (he : ∀ x, x ∈ zs → p x = true → ∀ (s : Shared) (H : Hp) (C : Addr) (cl : List (Str × Addr)) (fp : List Addr), DE (X.blk s H scope (compEnvC scope cl C X.env) fp) W elt (ρ' x) (En (f x)))
    (hy : X.N[i]? = some y := by rfl) (hyl : X.env.scope.names.lookup y = some .local := by rfl) (hsw : swapsWith (.ListComp elt [⟨tg, iter, ifs, 0⟩] scope pos) (some (.Name y py)) spos.line X.env = pure true := by exact sw_true rfl rfl rfl (by decide +kernel))
    (hs : ∀ x, foldedSetIterable iter X.env x = pure x := by intro _; rfl) : PS X (.Assign [.Name y py] (.ListComp elt [⟨tg, iter, ifs, 0⟩] scope pos) spos) (tAsg (tN W ρ (((zs.filter p).map f).map Datum.toD)) (gName i)) := by
  have h := pn_lc (spos := spos) (py := py) zs ea p (fun x => Datum.toD (f x)) ρ' hc hN hy hyl hsw hi ok hg ht he hs
  have e : (zs.filter p).map (fun x => Datum.toD (f x)) = ((zs.filter p).map f).map Datum.toD := by
    rw [List.map_map]
    rfl
  rw [e] at h
  exact h
theorem an_lcf {i : Nat} {y : Str} {py spos : Pos} {elt iter : Expr} {ifs : List Expr} {scope : Scope} (own : List (Str × Nat)) (zs : List α) (p : α → Bool) (ρ' : α → Ro) (hc : X.calm = true) (hN : X.N.Nodup) (hi : DIh X W tg iter ρ (zs.map fun x => En x)) (ok : BlkOk X.N X.env.scope scope own)
    (hg : ∀ x, x ∈ zs → ∀ (s : Shared) (H : Hp) (C : Addr) (cl : List (Str × Addr)) (fp : List Addr), DG (X.blk s H scope (compEnvC scope cl C X.env) fp) W tg (wipeR ρ (own.map (·.2))) (En x) (ρ' x) (own.map (·.2)))
    (ht : ∀ x, x ∈ zs → ∀ (s : Shared) (H : Hp) (C : Addr) (cl : List (Str × Addr)) (fp : List Addr), PTs (X.blk s H scope (compEnvC scope cl C X.env) fp) ifs (tT W (ρ' x) (p x)))
    (he : ∀ x, x ∈ zs → p x = true → ∀ (s : Shared) (H : Hp) (C : Addr) (cl : List (Str × Addr)) (fp : List Addr), DE (X.blk s H scope (compEnvC scope cl C X.env) fp) W elt (ρ' x) (En x))
    (hy : X.N[i]? = some y := by rfl) (hyl : X.env.scope.names.lookup y = some .local := by rfl) (hsw : swapsWith (.ListComp elt [⟨tg, iter, ifs, 0⟩] scope pos) (some (.Name y py)) spos.line X.env = pure true := by exact sw_true rfl rfl rfl (by decide +kernel))
    (hs : ∀ x, foldedSetIterable iter X.env x = pure x := by intro _; rfl) : PS X (.Assign [.Name y py] (.ListComp elt [⟨tg, iter, ifs, 0⟩] scope pos) spos) (tAsg (tN W ρ ((zs.filter p).map Datum.toD)) (gName i)) :=
  pn_lc (spos := spos) (py := py) zs (fun x => En x) p (fun x => Datum.toD x) ρ' hc hN hy hyl hsw hi ok hg ht he hs
theorem an_lc0 {i : Nat} {y : Str} {py spos : Pos} {elt iter : Expr} {scope : Scope} (own : List (Str × Nat)) (zs : List γ) (ea : γ → Sl) (f : γ → β) (ρ' : γ → Ro) (hc : X.calm = true) (hN : X.N.Nodup) (hi : DIh X W tg iter ρ (zs.map ea)) (ok : BlkOk X.N X.env.scope scope own)
    (hg : ∀ x, x ∈ zs → ∀ (s : Shared) (H : Hp) (C : Addr) (cl : List (Str × Addr)) (fp : List Addr), DG (X.blk s H scope (compEnvC scope cl C X.env) fp) W tg (wipeR ρ (own.map (·.2))) (ea x) (ρ' x) (own.map (·.2)))
    (he : ∀ x, x ∈ zs → ∀ (s : Shared) (H : Hp) (C : Addr) (cl : List (Str × Addr)) (fp : List Addr), DE (X.blk s H scope (compEnvC scope cl C X.env) fp) W elt (ρ' x) (En (f x)))
    (hy : X.N[i]? = some y := by rfl) (hyl : X.env.scope.names.lookup y = some .local := by rfl) (hsw : swapsWith (.ListComp elt [⟨tg, iter, [], 0⟩] scope pos) (some (.Name y py)) spos.line X.env = pure true := by exact sw_true rfl rfl rfl (by decide +kernel))
    (hs : ∀ x, foldedSetIterable iter X.env x = pure x := by intro _; rfl) : PS X (.Assign [.Name y py] (.ListComp elt [⟨tg, iter, [], 0⟩] scope pos) spos) (tAsg (tN W ρ ((zs.map f).map Datum.toD)) (gName i)) := by
  have h := an_lc (spos := spos) (py := py) own zs ea (fun _ => true) f ρ' hc hN hi ok hg (fun _ _ _ _ _ _ _ => dts_nil) (fun x hx _ => he x hx) hy hyl hsw hs
  have e : zs.filter (fun _ => true) = zs := List.filter_eq_self.mpr fun _ _ => rfl
  rw [e] at h
  exact h
/-- .. without an if -/
theorem tn_lc0 {elt iter : Expr} {scope : Scope} (own : List (Str × Nat)) (zs : List γ) (ea : γ → Sl) (f : γ → β) (ρ' : γ → Ro) (hc : X.calm = true) (hN : X.N.Nodup) (hi : DIh X W tg iter ρ (zs.map ea)) (ok : BlkOk X.N X.env.scope scope own)
    (hg : ∀ x, x ∈ zs → ∀ (s : Shared) (H : Hp) (C : Addr) (cl : List (Str × Addr)) (fp : List Addr), DG (X.blk s H scope (compEnvC scope cl C X.env) fp) W tg (wipeR ρ (own.map (·.2))) (ea x) (ρ' x) (own.map (·.2)))
    (he : ∀ x, x ∈ zs → ∀ (s : Shared) (H : Hp) (C : Addr) (cl : List (Str × Addr)) (fp : List Addr), DE (X.blk s H scope (compEnvC scope cl C X.env) fp) W elt (ρ' x) (En (f x)))
    (hs : ∀ x, foldedSetIterable iter X.env x = pure x := by intro _; rfl) : TN X W (.ListComp elt [⟨tg, iter, [], 0⟩] scope pos) ρ (zs.map f) := by
  have h := tn_lc (pos := pos) own zs ea (fun _ => true) f ρ' hc hN hi ok hg (fun _ _ _ _ _ _ _ => dts_nil) (fun x hx _ => he x hx) hs
  rw [filter_all] at h
  exact h
/-- [x for x in xs if p(x)] -/
theorem tn_lcf {elt iter : Expr} {ifs : List Expr} {scope : Scope} (own : List (Str × Nat)) (zs : List α) (p : α → Bool) (ρ' : α → Ro) (hc : X.calm = true) (hN : X.N.Nodup) (hi : DIh X W tg iter ρ (zs.map fun x => En x)) (ok : BlkOk X.N X.env.scope scope own)
    (hg : ∀ x, x ∈ zs → ∀ (s : Shared) (H : Hp) (C : Addr) (cl : List (Str × Addr)) (fp : List Addr), DG (X.blk s H scope (compEnvC scope cl C X.env) fp) W tg (wipeR ρ (own.map (·.2))) (En x) (ρ' x) (own.map (·.2)))
    (ht : ∀ x, x ∈ zs → ∀ (s : Shared) (H : Hp) (C : Addr) (cl : List (Str × Addr)) (fp : List Addr), PTs (X.blk s H scope (compEnvC scope cl C X.env) fp) ifs (tT W (ρ' x) (p x)))
    (he : ∀ x, x ∈ zs → p x = true → ∀ (s : Shared) (H : Hp) (C : Addr) (cl : List (Str × Addr)) (fp : List Addr), DE (X.blk s H scope (compEnvC scope cl C X.env) fp) W elt (ρ' x) (En x))
    (hs : ∀ x, foldedSetIterable iter X.env x = pure x := by intro _; rfl) : TN X W (.ListComp elt [⟨tg, iter, ifs, 0⟩] scope pos) ρ (zs.filter p) :=
  dn_lc (pos := pos) zs (fun x => En x) p (fun x => Datum.toD x) ρ' hc hN hi ok hg ht he hs
end

/-! ### statements -/
section
variable {X : Cx} {G0 H0 G1 : Hp} {W : Res} {ρ : Ro} {D : Ends} {pos : Pos} {e a b c : Expr} {rest body : List Stmt}
/-- if c: x = .. : one name changes -/
theorem d_if1 {α : Type} [DecidableEq α] [Datum α] {i : Nat} {k : Bool} {u w : List Stmt} (y : α) (hc : DT X W c ρ k) (h1 : k = true → DSs X u (At G0 H0 G1 W ρ) { D with nx := At G0 H0 G1 W (ρ.set i (some (En y))) }) (h2 : k = false → DSs X w (At G0 H0 G1 W ρ) { D with nx := At G0 H0 G1 W (ρ.set i (some (En y))) })
    (kr : ∀ z : α, z = y → DSs X rest (At G0 H0 G1 W (ρ.set i (some (En z)))) D) : DSs X (.If c u w pos :: rest) (At G0 H0 G1 W ρ) D := d_if hc h1 h2 (kr y rfl)
theorem d_fold {α β : Type} {tg iter : Expr} (xs : List α) (ea : α → Sl) (step : β → α → β) (Iv : List α → β → Prop) (W' : β → Res) (ρ' : β → Ro) (ρt : β → α → Ro) {js : List Nat} (b0 : β) (hp : PassesOwn (model X.prog X.w) X.A X.env X.xe) (hc : X.calm = true) (hi : DIg X W tg iter ρ (xs.map ea))
    (h0 : ∀ G H σ, Cxt W ρ G σ H → Cxt (W' b0) (ρ' b0) G σ H) (hI : Iv [] b0) (hg : ∀ b x, x ∈ xs → DG X (W' b) tg (ρ' b) (ea x) (ρt b x) js)
    (turn : ∀ (G2 : Hp) (bk : L2.St → Hp → Prop) pre x post b, xs = pre ++ x :: post → b = pre.foldl step b0 → Iv pre b → Same G1 G2 → (∃ H2, Same G2 H2 ∧ (W' b0).p G2 H2) →
      DSs X body (At G0 H0 G2 (W' b) (ρt b x)) { D with nx := fun σ H => Iv (pre ++ [x]) (step b x) ∧ At G0 H0 G2 (W' (step b x)) (ρ' (step b x)) σ H, ct := fun σ H => Iv (pre ++ [x]) (step b x) ∧ At G0 H0 G2 (W' (step b x)) (ρ' (step b x)) σ H, bk := bk })
    (after : ∀ b, b = xs.foldl step b0 → Iv xs b → DSs X rest (At G0 H0 G1 (W' b) (ρ' b)) D) (hs : ∀ x, foldedSetIterable iter X.env x = pure x := by intro _; rfl) : DSs X (.For tg iter body [] pos :: rest) (At G0 H0 G1 W ρ) D := by
  refine d_for xs ea (fun pre b => b = pre.foldl step b0 ∧ Iv pre b) W' ρ' ρt b0 hp hc hi h0 ⟨rfl, hI⟩ hg (fun G2 bk pre x post b e hb hG hW => ?_) (fun b hb => after b hb.1 hb.2) hs
  have key : ∀ σ H, (Iv (pre ++ [x]) (step b x) ∧ At G0 H0 G2 (W' (step b x)) (ρ' (step b x)) σ H) → ∃ b', (b' = (pre ++ [x]).foldl step b0 ∧ Iv (pre ++ [x]) b') ∧ At G0 H0 G2 (W' b') (ρ' b') σ H := fun σ H h =>
    ⟨step b x, ⟨by rw [List.foldl_append, ← hb.1]; rfl, h.1⟩, h.2⟩
  have t := turn G2 bk pre x post b e hb.1 hb.2 hG hW
  refine ⟨fun pins s σ H I p => ?_⟩
  refine thn (t.run pins s σ H I p) fun f s1 q => ?_
  cases f with
  | next =>
    obtain ⟨σ', H', I', q⟩ := q
    exact ⟨σ', H', I', key _ _ q⟩
  | cont =>
    obtain ⟨σ', H', I', q⟩ := q
    exact ⟨σ', H', I', key _ _ q⟩
  | brk => exact q
  | ret v => exact q
end
end DL

/-! DL7: promises of defs by Lean functions. -/
namespace DL
open PySem PySem.Spec L2
open PyProof.Rows hiding St
open PySem.W (Datum DatumOrd Tup T3 Holds HoldAll EachIs)
abbrev FnP (K : PySem.W.Frag) (x q : Str) (st : Stmt) (f : Addr) (fd : FuncData) : Prop := FunD K x q (defArgs st) (defBody st) (defScope st) [] [] f fd
/-- a def of the module -/
def DefG (K : PySem.W.Frag) (mg : Str → Option Value) (x : Str) (st : Stmt) : Prop := ∃ f fd, FnP K x x st f fd ∧ mg x = some (.ref f)
/-- a method of the class at C -/
def DefM (K : PySem.W.Frag) (C : Addr) (m q : Str) (st : Stmt) : Prop := ∃ f fd, FnP K m q st f fd ∧ Meth K C m f
/-- how a def's parameters bind -/
def BindE (x q : Str) (st : Stmt) (ps : List Str) : Prop := ∀ (kV doc pm : Value) (an : Option Addr) (cdv ct : Value) (us : List Value), us.length = ps.length → bindArgs (PySem.W.fnOf x q (defArgs st) (defBody st) (defScope st) .none kV doc pm an cdv ct) ⟨us, []⟩ = pure (ps.zip us)
section
variable {P : Program} {w : World} {K : PySem.W.Frag} {mg : Str → Option Value} {base : Heap} {k : Nat} {C : Addr} {x m q : Str} {st : Stmt} {ps : List Str} {R : List Sl → Res → Sl → Prop}
theorem fng_of (D : DefG K mg x st) (b : BindE x x st ps) (h : ∀ f fd, FnP K x x st f fd → FnOk P w K mg base L2.CX0 k f fd ps (SpD R)) : FnG P w K mg base k x ps R := by
  obtain ⟨f, fd, F, hm⟩ := D
  exact ⟨f, fd, hm, F.kp, F.bindsN b, h f fd F⟩
theorem mtg_of (D : DefM K C m q st) (b : BindE m q st ps) (h : ∀ f fd, FnP K m q st f fd → FnOk P w K mg base L2.CX0 k f fd ps (SpD R)) : MtG P w K mg base k C m ps R := by
  obtain ⟨f, fd, F, hm⟩ := D
  exact ⟨f, fd, hm, F.bindsN b, h f fd F⟩
end
section
variable {α β γ δ ε ζ : Type} [DecidableEq α] [Datum α] [DecidableEq β] [Datum β] [DecidableEq γ] [Datum γ] [DecidableEq δ] [Datum δ] [DecidableEq ε] [Datum ε] [DecidableEq ζ] [Datum ζ]
def R1 (pre : α → Prop) (f : α → ζ) : List Sl → Res → Sl → Prop := fun ss _ r => ∃ a, ss = [En a] ∧ pre a ∧ r = En (f a)
def R2 (pre : α → β → Prop) (f : α → β → ζ) : List Sl → Res → Sl → Prop := fun ss _ r => ∃ a b, ss = [En a, En b] ∧ pre a b ∧ r = En (f a b)
def R3 (pre : α → β → γ → Prop) (f : α → β → γ → ζ) : List Sl → Res → Sl → Prop := fun ss _ r => ∃ a b c, ss = [En a, En b, En c] ∧ pre a b c ∧ r = En (f a b c)
def R4 (pre : α → β → γ → δ → Prop) (f : α → β → γ → δ → ζ) : List Sl → Res → Sl → Prop := fun ss _ r => ∃ a b c d, ss = [En a, En b, En c, En d] ∧ pre a b c d ∧ r = En (f a b c d)
def R5 (pre : α → β → γ → δ → ε → Prop) (f : α → β → γ → δ → ε → ζ) : List Sl → Res → Sl → Prop := fun ss _ r => ∃ a b c d e, ss = [En a, En b, En c, En d, En e] ∧ pre a b c d e ∧ r = En (f a b c d e)
theorem R1.len {pre : α → Prop} {f : α → ζ} : ∀ ss W r, R1 pre f ss W r → ss.length = 1 := fun ss W r ⟨_, e, _⟩ => by rw [e]; rfl
theorem R2.len {pre : α → β → Prop} {f : α → β → ζ} : ∀ ss W r, R2 pre f ss W r → ss.length = 2 := fun ss W r ⟨_, _, e, _⟩ => by rw [e]; rfl
theorem R3.len {pre : α → β → γ → Prop} {f : α → β → γ → ζ} : ∀ ss W r, R3 pre f ss W r → ss.length = 3 := fun ss W r ⟨_, _, _, e, _⟩ => by rw [e]; rfl
theorem R4.len {pre : α → β → γ → δ → Prop} {f : α → β → γ → δ → ζ} : ∀ ss W r, R4 pre f ss W r → ss.length = 4 := fun ss W r ⟨_, _, _, _, e, _⟩ => by rw [e]; rfl
theorem R5.len {pre : α → β → γ → δ → ε → Prop} {f : α → β → γ → δ → ε → ζ} : ∀ ss W r, R5 pre f ss W r → ss.length = 5 := fun ss W r ⟨_, _, _, _, _, e, _⟩ => by rw [e]; rfl
/-- an argument list, written out -/
structure SAs (X : Cx) (e : Expr) (es : List Expr) (pos : Pos) : Prop where
  he : starEach (e :: es) X.env = (false, eval e X.env) :: starEach es X.env
  hpl : (backTo pos (starEach es X.env)).any (·.1) = false
variable {X : Cx} {W : Res} {ρ : Ro} {pos fp : Pos} {ea eb ec ed ee : Expr} {k j : Nat} {x : Str} {ps : List Str} {a : α} {b : β} {c : γ} {d : δ} {e : ε}
theorem call1 {pre : α → Prop} {f : α → ζ} (F : FnG X.prog X.w X.K X.mg X.base j x ps (R1 pre f)) (hr : Room k X.A) (h1 : DE X W ea ρ (En a)) (hp : pre a) (hj : j ≤ k := by decide) (hg : Gl X x := by rfl) (hdb : (x == ("__debug__" : Str)) = false := by decide)
    (sa : SAs X ea [] pos := by exact ⟨rfl, rfl⟩) : DE X W (.Call (.Name x fp) [ea] [] pos) ρ (En (f a)) :=
  de_call (W0 := R0) F hr (da_cons h1 da_nil sa.he) (fun _ _ _ _ => trivial) ⟨a, rfl, hp, rfl⟩ hj hg hdb sa.he sa.hpl
theorem call2 {pre : α → β → Prop} {f : α → β → ζ} (F : FnG X.prog X.w X.K X.mg X.base j x ps (R2 pre f)) (hr : Room k X.A) (h1 : DE X W ea ρ (En a)) (h2 : DE X W eb ρ (En b)) (hp : pre a b) (hj : j ≤ k := by decide) (hg : Gl X x := by rfl) (hdb : (x == ("__debug__" : Str)) = false := by decide)
    (sa : SAs X ea [eb] pos := by exact ⟨rfl, rfl⟩) (sb : SAs X eb [] pos := by exact ⟨rfl, rfl⟩) : DE X W (.Call (.Name x fp) [ea, eb] [] pos) ρ (En (f a b)) :=
  de_call (W0 := R0) F hr (da_cons h1 (da_cons h2 da_nil sb.he) sa.he) (fun _ _ _ _ => trivial) ⟨a, b, rfl, hp, rfl⟩ hj hg hdb sa.he sa.hpl
theorem call3 {pre : α → β → γ → Prop} {f : α → β → γ → ζ} (F : FnG X.prog X.w X.K X.mg X.base j x ps (R3 pre f)) (hr : Room k X.A) (h1 : DE X W ea ρ (En a)) (h2 : DE X W eb ρ (En b)) (h3 : DE X W ec ρ (En c)) (hp : pre a b c) (hj : j ≤ k := by decide) (hg : Gl X x := by rfl) (hdb : (x == ("__debug__" : Str)) = false := by decide)
    (sa : SAs X ea [eb, ec] pos := by exact ⟨rfl, rfl⟩) (sb : SAs X eb [ec] pos := by exact ⟨rfl, rfl⟩) (sc : SAs X ec [] pos := by exact ⟨rfl, rfl⟩) : DE X W (.Call (.Name x fp) [ea, eb, ec] [] pos) ρ (En (f a b c)) :=
  de_call (W0 := R0) F hr (da_cons h1 (da_cons h2 (da_cons h3 da_nil sc.he) sb.he) sa.he) (fun _ _ _ _ => trivial) ⟨a, b, c, rfl, hp, rfl⟩ hj hg hdb sa.he sa.hpl
theorem call4 {pre : α → β → γ → δ → Prop} {f : α → β → γ → δ → ζ} (F : FnG X.prog X.w X.K X.mg X.base j x ps (R4 pre f)) (hr : Room k X.A) (h1 : DE X W ea ρ (En a)) (h2 : DE X W eb ρ (En b)) (h3 : DE X W ec ρ (En c)) (h4 : DE X W ed ρ (En d)) (hp : pre a b c d) (hj : j ≤ k := by decide) (hg : Gl X x := by rfl) (hdb : (x == ("__debug__" : Str)) = false := by decide)
    (sa : SAs X ea [eb, ec, ed] pos := by exact ⟨rfl, rfl⟩) (sb : SAs X eb [ec, ed] pos := by exact ⟨rfl, rfl⟩) (sc : SAs X ec [ed] pos := by exact ⟨rfl, rfl⟩) (sd : SAs X ed [] pos := by exact ⟨rfl, rfl⟩) : DE X W (.Call (.Name x fp) [ea, eb, ec, ed] [] pos) ρ (En (f a b c d)) :=
  de_call (W0 := R0) F hr (da_cons h1 (da_cons h2 (da_cons h3 (da_cons h4 da_nil sd.he) sc.he) sb.he) sa.he) (fun _ _ _ _ => trivial) ⟨a, b, c, d, rfl, hp, rfl⟩ hj hg hdb sa.he sa.hpl
theorem te_if {c0 a0 b0 : Expr} {k0 : Bool} {x y : α} (hc : DT X W c0 ρ k0) (ha : k0 = true → DE X W a0 ρ (En x)) (hb : k0 = false → DE X W b0 ρ (En y)) : DE X W (.IfExp c0 a0 b0 pos) ρ (En (bif k0 then x else y)) := de_if hc (fun h => by
  subst h
  exact ha rfl) (fun h => by
  subst h
  exact hb rfl)
end
section
variable {X : Cx} {G0 H0 G1 : Hp} {W : Res} {ρ : Ro} {D : Ends} {pos : Pos} {e a b c : Expr} {rest body : List Stmt}
/-- if c: x = e : the name's new value, or the old one -/
theorem d_if1s {α : Type} [DecidableEq α] [Datum α] {i : Nat} {k : Bool} {y y0 : α} {x : Str} {p' ap : Pos} (hN : X.N.Nodup) (h0 : ρ[i]? = some (some (En y0))) (hc : DT X W c ρ k) (he : k = true → DE X W e ρ (En y)) (kr : ∀ z : α, z = (bif k then y else y0) → DSs X rest (At G0 H0 G1 W (ρ.set i (some (En z)))) D)
    (hi : X.N[i]? = some x := by rfl) (hx : Loc X.env.scope x := by first | exact Or.inl rfl | exact Or.inr rfl)
    (hs : swapsWith e (some (.Name x p')) ap.line X.env = pure false := by rfl) (hf : X.fn x = true ∨ X.env.scope.names.lookup x = some .local := by first | exact Or.inl rfl | exact Or.inr rfl) : DSs X (.If c [.Assign [.Name x p'] e ap] [] pos :: rest) (At G0 H0 G1 W ρ) D := by
  refine d_if1 (i := i) (bif k then y else y0) hc (fun h => ?_) (fun h => d_nil fun σ H p => ?_) kr
  · subst h
    exact d_set (i := i) hN (he rfl) (d_nil fun _ _ p => p) hi hx hs hf
  · subst h
    have hl : i < ρ.length := (List.getElem?_eq_some_iff.mp h0).1
    have e2 : ρ.set i (some (En y0)) = ρ := by
      apply List.ext_getElem?
      intro j
      by_cases hj : i = j
      · subst hj
        rw [List.getElem?_set_self hl, h0]
      · rw [List.getElem?_set_ne hj]
    show At G0 H0 G1 W (ρ.set i (some (En y0))) σ H
    rw [e2]
    exact p
end
end DL

/-! DL8: append, remove, more small rules. -/
namespace DL
open PySem PySem.Spec L2
open PyProof.Rows hiding St
open PySem.W (Datum DatumOrd Tup T3 Holds HoldAll EachIs)
section
variable {X : Cx} {G0 H0 G1 : Hp} {W : Res} {ρ : Ro} {D : Ends} {pos fp : Pos} {e a b c : Expr} {rest body : List Stmt} {st : Stmt} {s : Sl}
theorem de_neg {i : Int} (h : DE X W a ρ (En i)) : DE X W (.UnaryOp .USub a pos) ρ (En (-i)) := pe_imp (pe_un un_neg h) fun σ H Q ⟨G, c, k⟩ => ⟨G, c, fun v G1 H1 g1 r1 => by
  cases r1
  exact ⟨i, rfl, k _ G1 H1 g1 (.int _)⟩⟩
theorem te_lenT {α : Type} [DecidableEq α] [Datum α] {t : Tup α} (hm : X.mg "len" = none) (ha : DE X W a ρ (En t)) (hg : Gl X "len" := by rfl) (sa : SA1 X a pos := by exact ⟨rfl, rfl⟩) : DE X W (.Call (.Name "len" fp) [a] [] pos) ρ (En (t.items.length : Int)) := by
  have h : DE X W (.Call (.Name "len" fp) [a] [] pos) ρ (En ((t.items.map Datum.toD).length : Int)) :=
    de_tCB (pe_callB call_len_seq hg hm PySem.boot_len (da_cons ha da_nil sa.h) (he := sa.h) (hpl := sa.b)) fun G H vs Q hs hw r k => by
      cases r with
      | cons h t =>
        cases t
        have h' : Rp G _ (.tuple _) := h
        cases h' with
        | tup h1 h2 => exact ⟨_, _, rfl, .inr (.inl (.inl (hs _ _ h1))), by
            rw [h2.length]
            exact k _ G H (.refl hs) (.int _)⟩
  rw [List.length_map] at h
  exact h
/-! None or something -/
section
variable {α : Type} [DecidableEq α] [Datum α]
theorem rp_none {G : Hp} {v : V} {d : PyData} (h : Rp G v d) : (decide (v = V.non)) = (match d with | .none => true | _ => false) := by
  cases h <;> simp
end
/-- xs.append(e), typed -/
theorem d_appT {α : Type} [DecidableEq α] [Datum α] {A : Res} {i : Nat} {x : Str} {p : Addr} {y : α} {ys : List α} {ap px cp : Pos} (hr : ρ[i]? = some (some (.v (.ref p)))) (hH : H0 p = none) (hG : G1 p = none) (hF : Frm A p) (he : DE X (A.and (Own p (ys.map Datum.toD))) e ρ (En y)) (hz : ys.length < 1000000)
    (k : DSs X rest (At G0 H0 G1 (A.and (Own p ((ys ++ [y]).map Datum.toD))) ρ) D) (hN : X.N[i]? = some x := by rfl) (hv : Vis X.env.scope x := by first | exact Or.inl rfl | exact Or.inr (Or.inl rfl) | exact Or.inr (Or.inr rfl)) (hd : (x == ("__debug__" : Str)) = false := by decide) (hcd : (x == ("__classdict__" : Str)) = false := by decide)
    (hst : starEach [e] X.env = (false, eval e X.env) :: starEach [] X.env := by rfl)
    (hm : ∀ {te : TE}, PA X [e] (tCons te tNil) → PE X (.Call (.Attribute (.Name x px) "append" ap) [e] [] cp) (tBM X.K "list" rAppend (tVar i) (tCons te tNil)) := by exact fun ha => pe_bm PySem.F.plainAttrs_list PySem.F.slot_list_append PySem.F.type_list_append mt_append (pe_var rfl (by first | exact Or.inl rfl | exact Or.inr (Or.inl rfl) | exact Or.inr (Or.inr rfl))) ha)
    (hs : swapsWith (.Call (.Attribute (.Name x px) "append" ap) [e] [] cp) none pos.line X.env = pure false := by rfl) : DSs X (.Expr (.Call (.Attribute (.Name x px) "append" ap) [e] [] cp) pos :: rest) (At G0 H0 G1 (A.and (Own p (ys.map Datum.toD))) ρ) D := by
  refine d_app hr hH hG hF he (by rw [List.length_map, sizeLine_eq]; omega) ?_ hN hv hd hcd hst hm hs
  rw [List.map_append] at k
  exact k
/-- the list is complete -/
theorem d_frzT {α : Type} [DecidableEq α] [Datum α] {A : Res} {i : Nat} {p : Addr} {ys : List α} (hr : ρ[i]? = some (some (.v (.ref p)))) (hH : H0 p = none) (hG : G1 p = none) (hF : ∀ G H o, Same G H → H p = some o → G p = none → A.p G H → A.p (upd G p o) H) (k : DSs X body (At G0 H0 G1 A (ρ.set i (some (En ys)))) D) :
    DSs X body (At G0 H0 G1 (A.and (Own p (ys.map Datum.toD))) ρ) D := d_frz hr hH hG hF k
end
end DL

/-! DL9: defs that change objects, or make them. -/
namespace DL
open PySem PySem.Spec L2
open PyProof.Rows hiding St
open PySem.W (Datum DatumOrd Tup T3 Holds HoldAll EachIs)

/-- the heap without the objects at ds -/
def cut (ds : List Addr) (H : Hp) : Hp := fun a => if a ∈ ds then none else H a
theorem cut_nil (H : Hp) : cut [] H = H := by
  funext a
  unfold cut
  rw [if_neg List.not_mem_nil]
theorem cut_ne {ds : List Addr} {H : Hp} {a : Addr} (h : a ∉ ds) : cut ds H a = H a := by
  unfold cut
  rw [if_neg h]
theorem cut_in {ds : List Addr} {H : Hp} {a : Addr} (h : a ∈ ds) : cut ds H a = none := by
  unfold cut
  rw [if_pos h]
theorem cut_some {ds : List Addr} {H : Hp} {a : Addr} {o : HO} (h : cut ds H a = some o) : a ∉ ds ∧ H a = some o := by
  by_cases q : a ∈ ds
  · rw [cut_in q] at h
    cases h
  · rw [cut_ne q] at h
    exact ⟨q, h⟩
theorem cut_none {ds : List Addr} {H : Hp} {a : Addr} (h : H a = none) : cut ds H a = none := by
  by_cases q : a ∈ ds
  · exact cut_in q
  · rw [cut_ne q]
    exact h
theorem same_cut {ds : List Addr} {G H : Hp} (s : Same G H) (h : ∀ d ∈ ds, G d = none) : Same G (cut ds H) := fun a o e => by
  by_cases q : a ∈ ds
  · rw [h a q] at e
    cases e
  · rw [cut_ne q]
    exact s a o e
theorem Gw.cutOf {ds : List Addr} {G H G1 H1 G2 H2 : Hp} (a : Gw G H G1 H1) (b : Gw G1 (cut ds H1) G2 H2) : Gw G (cut ds H) G2 H2 :=
  ⟨a.g.trans b.g, fun x o e => by
    obtain ⟨h1, h2⟩ := cut_some e
    exact b.h x o (by rw [cut_ne h1]; exact a.h x o h2), b.i, fun x o e n => by
    cases q : G1 x with
    | some u =>
      have e2 := b.g x u q
      rw [e] at e2
      cases e2
      rcases a.n x o q n with z | z
      · exact .inl (cut_none z)
      · exact .inr z
    | none =>
      rcases b.n x o e q with z | z
      · left
        by_cases hx : x ∈ ds
        · exact cut_in hx
        · rw [cut_ne hx] at z ⊢
          exact a.h.free z
      · exact .inr z⟩
theorem Gw.cutL {ds : List Addr} {G H G1 H1 : Hp} (a : Gw G H G1 H1) : Gw G (cut ds H) G1 H1 :=
  ⟨a.g, fun x o e => a.h x o (cut_some e).2, a.i, fun x o e n => by
    rcases a.n x o e n with z | z
    · exact .inl (cut_none z)
    · exact .inr z⟩
/-- behind an anchor, objects that it does not know may change -/
theorem Gw.anchor {ds : List Addr} {G0 H0 G H G' H' : Hp} (a : Gw G0 H0 G H) (b : Gw G (cut ds H) G' H') (h : ∀ d ∈ ds, H0 d = none) : Gw G0 H0 G' H' :=
  ⟨a.g.trans b.g, fun x o e => b.h x o (by
    rw [cut_ne fun q => by rw [h x q] at e; cases e]
    exact a.h x o e), b.i, fun x o e n => by
    cases q : G x with
    | some u =>
      have e2 := b.g x u q
      rw [e] at e2
      cases e2
      exact a.n x o q n
    | none =>
      rcases b.n x o e q with z | z
      · left
        by_cases hx : x ∈ ds
        · exact h x hx
        · rw [cut_ne hx] at z
          exact a.h.free z
      · exact .inr z⟩
/-- A does not lean on ds -/
def Frc (A : Res) (ds : List Addr) : Prop := ∀ G H, Same G H → (∀ d ∈ ds, G d = none) → A.p G H → A.p G (cut ds H)
theorem frc_R0 {ds : List Addr} : Frc R0 ds := fun _ _ _ _ _ => trivial
theorem frc_and {A B : Res} {ds : List Addr} (h1 : Frc A ds) (h2 : Frc B ds) : Frc (A.and B) ds := fun G H s g h => ⟨h1 G H s g h.1, h2 G H s g h.2⟩
theorem frc_own {q : Addr} {xs : List PyData} {ds : List Addr} (h : q ∉ ds) : Frc (Own q xs) ds := fun G H s g ⟨h1, ys, h2, h3⟩ => ⟨h1, ys, by rw [cut_ne h]; exact h2, h3⟩
theorem frc_nil {A : Res} : Frc A [] := fun G H s g h => by
  rw [cut_nil]
  exact h
theorem frm_frc {A : Res} {p : Addr} (h : Frc A [p]) : Frm A p := fun G H o s g a => by
  have h1 := h G H s (fun d hd => by rw [List.mem_singleton.mp hd]; exact g) a
  refine A.mono (same_cut s fun d hd => by rw [List.mem_singleton.mp hd]; exact g) ⟨Same.refl _, fun x u e => ?_, fun x u e => ?_, fun x u e n => by rw [n] at e; cases e⟩ h1
  · obtain ⟨h2, h3⟩ := cut_some e
    rw [upd_ne fun q => h2 (List.mem_singleton.mpr q)]
    exact h3
  · rw [upd_ne (ne_of_none e g)]
    exact s x u e

/-- what a def that changes or makes objects leaves: N new addresses, what is known, the result -/
abbrev PostT := List Addr → Res → Sl → Prop
/-- its promise: ds the objects that it changes -/
def SpM (R : List Sl → Res → List Addr → PostT → Prop) : Sp := fun vs H Q _ => ∃ G ss W ds Post, Same G H ∧ W.p G H ∧ (∀ d ∈ ds, G d = none) ∧ RepL G vs ss ∧ R ss W ds Post ∧
  ∀ N W' r v G' H', Post N W' r → (∀ a ∈ N, H a = none) → Gw G (cut ds H) G' H' → W'.p G' H' → RepS G' v r → Q v H'
def tX (W : Res) (ρ : Ro) (ds : List Addr) (Post : PostT) : TE := fun σ H Q => ∃ G, Cxt W ρ G σ H ∧ (∀ d ∈ ds, G d = none) ∧ ∀ N W' r v G' H', Post N W' r → (∀ a ∈ N, H a = none) → Gw G (cut ds H) G' H' → W'.p G' H' → RepS G' v r → Q v H'
abbrev DX (X : Cx) (W : Res) (e : Expr) (ρ : Ro) (ds : List Addr) (Post : PostT) : Prop := PE X e (tX W ρ ds Post)
/-- the frame A beside what the callee leaves -/
def framed (A : Res) (Post : PostT) : PostT := fun N W' r => ∃ W0, Post N W0 r ∧ W' = A.and W0
section
variable {P : Program} {w : World} {K : PySem.W.Frag} {mg : Str → Option Value} {base : Heap}
def FnM (P : Program) (w : World) (K : PySem.W.Frag) (mg : Str → Option Value) (base : Heap) (k : Nat) (x : Str) (ps : List Str) (R : List Sl → Res → List Addr → PostT → Prop) : Prop :=
  ∃ f fd, mg x = some (.ref f) ∧ PySem.W.keepIn K (.ref f) = true ∧ Binds K fd ps [] ∧ FnOk P w K mg base L2.CX0 k f fd ps (SpM R)
def MtM (P : Program) (w : World) (K : PySem.W.Frag) (mg : Str → Option Value) (base : Heap) (k : Nat) (C : Addr) (m : Str) (ps : List Str) (R : List Sl → Res → List Addr → PostT → Prop) : Prop :=
  ∃ f fd, Meth K C m f ∧ Binds K fd ps [] ∧ FnOk P w K mg base L2.CX0 k f fd ps (SpM R)
/-- a class: its __init__ changes the new instance alone -/
def MkM (P : Program) (w : World) (K : PySem.W.Frag) (mg : Str → Option Value) (base : Heap) (k : Nat) (x : Str) (C : Addr) (ps : List Str) (R : List Sl → Res → List Addr → PostT → Prop) : Prop :=
  ∃ f fd, Mk K C f ∧ mg x = some (.ref C) ∧ Binds K fd ps [] ∧ FnOk P w K mg base L2.CX0 k f fd ps (SpM R)
/-- a new instance without attributes -/
def InsR (C p : Addr) : Res := ⟨fun G H => G p = none ∧ ∃ dx, H p = some (.ins C dx []), fun s g ⟨h1, dx, h2⟩ => ⟨g.nosh h2 (fun _ z => nomatch z) h1, dx, g.h p _ h2⟩⟩
theorem fn_m {x qual : Str} {params : Arguments} {body : List Stmt} {scope : Scope} {dvs : List V} {kws : List (Str × V)} {f : Addr} {fd : FuncData} {N ps : List Str} {k : Nat} {R : List Sl → Res → List Addr → PostT → Prop} (F : FunD K x qual params body scope dvs kws f fd) (S : FnScope N ps scope)
    (len : ∀ ss W ds Post, R ss W ds Post → ss.length = ps.length)
    (hb : ∀ (cdv : Value) (A : Around) (outer : List Env) (s : Shared) (G0 H0 : Hp) (E : XK) ss W ds Post, Room k (A.deeper (envOfC qual scope s.heap.objs.size f cdv)) → R ss W ds Post → (∀ d ∈ ds, G0 d = none) →
      DSs (cxOf L2.CX0 P w K mg base N qual scope f cdv A outer s H0 E).nox body (At G0 (cut ds H0) G0 W (startR N ss))
        { nx := fun _ H' => ∃ N' W' r G', Post N' W' r ∧ (∀ a ∈ N', H0 a = none) ∧ Gw G0 (cut ds H0) G' H' ∧ W'.p G' H' ∧ RepS G' .non r, rt := fun v H' => ∃ N' W' r G', Post N' W' r ∧ (∀ a ∈ N', H0 a = none) ∧ Gw G0 (cut ds H0) G' H' ∧ W'.p G' H' ∧ RepS G' v r }) : FnOk P w K mg base L2.CX0 (k + 1) f fd ps (SpM R) := by
  refine FunD.ok F S (fun vs H Q E ⟨G, ss, W, ds, Post, _, _, _, h, hR, _⟩ => by rw [h.length]; exact len _ _ _ _ hR) fun cdv A outer s H vs Q E hr ⟨G, ss, W, ds, Post, hs, hw, hd, h, hR, k⟩ => ?_
  refine ⟨tB (cxOf L2.CX0 P w K mg base N qual scope f cdv A outer s H E) body, ⟨fun pins s2 σ2 H2 D2 I2 ⟨P2, h2, p2⟩ => h2.run pins s2 σ2 H2 I2 p2⟩, ?_⟩
  have d := hb cdv A outer s G H E ss W ds Post hr hR hd
  refine ⟨At G (cut ds H) G W (startR N ss), ⟨fun pins s2 σ2 H2 I2 p2 => ?_⟩, G, (Gw.refl hs).cutL, Same.refl _, hs, hw, env_start h⟩
  refine wpAny_mono (d.run pins s2 σ2 H2 (I2.wish _) p2) (fun fl s3 q => ?_) fun _ _ z => False.elim z
  have q' := q.unwish
  cases fl with
  | next =>
    obtain ⟨σ3, H3, I3, N', W', r, G3, h1, h2, g3, h3, r3⟩ := q'
    exact ⟨σ3, H3, I3, k N' W' r _ G3 H3 h1 h2 g3 h3 r3⟩
  | ret u =>
    obtain ⟨v3, σ3, H3, I3, rl, N', W', r, G3, h1, h2, g3, h3, r3⟩ := q'
    exact ⟨v3, σ3, H3, I3, rl, k N' W' r _ G3 H3 h1 h2 g3 h3 r3⟩
  | brk => exact q'
  | cont => exact q'
end
section
variable {X : Cx} {W W0 A : Res} {ρ : Ro} {pos fp apos : Pos} {e o : Expr} {es : List Expr} {ss : List Sl} {ds : List Addr} {Post : PostT} {k j : Nat} {x m : Str} {ps : List Str} {R : List Sl → Res → List Addr → PostT → Prop} {C p : Addr}
/-- the call itself, its arguments known -/
theorem spm_go {σ : L2.St} {G H G1 H1 : Hp} {Q : VK} {vs : List V} {ss : List Sl} {E : XK} (c : Cxt W ρ G σ H) (hd : ∀ d ∈ ds, G d = none) (g1 : Gw G H G1 H1) (r1 : RepL G1 vs ss) (hdH : ∀ G H, Same G H → W.p G H → ∀ d ∈ ds, ∃ o, H d = some o ∧ ∀ xs, o ≠ .tup xs)
    (hW : ∀ G H, Same G H → W.p G H → W0.p G H) (hA : ∀ G H, Same G H → (∀ d ∈ ds, G d = none) → W.p G H → A.p G (cut ds H)) (hR : R ss W0 ds Post)
    (q : ∀ N W' r v G' H', framed A Post N W' r → (∀ a ∈ N, H a = none) → Gw G (cut ds H) G' H' → W'.p G' H' → RepS G' v r → Q v H') : SpM R vs H1 Q E := by
  have c1 := c.step g1
  have hd1 : ∀ d ∈ ds, G1 d = none := fun d hd' => by
    obtain ⟨u, hu, nt⟩ := hdH G H c.s c.w d hd'
    exact g1.nosh hu nt (hd d hd')
  refine ⟨G1, ss, W0, ds, Post, c1.s, hW _ _ c1.s c1.w, hd1, r1, hR, fun N W' r v G2 H2 hP hN g2 hw r2 => ?_⟩
  refine q N (A.and W') r v G2 H2 ⟨W', hP, rfl⟩ (fun a ha => g1.h.free (hN a ha)) (g1.cutOf g2) ⟨A.mono (same_cut c1.s hd1) g2 (hA _ _ c1.s hd1 c1.w), hw⟩ r2
theorem dx_call (F : FnM X.prog X.w X.K X.mg X.base j x ps R) (hr : Room k X.A) (ha : DA X W (e :: es) ρ ss) (hdH : ∀ G H, Same G H → W.p G H → ∀ d ∈ ds, ∃ o, H d = some o ∧ ∀ xs, o ≠ .tup xs) (hW : ∀ G H, Same G H → W.p G H → W0.p G H)
    (hA : ∀ G H, Same G H → (∀ d ∈ ds, G d = none) → W.p G H → A.p G (cut ds H)) (hR : R ss W0 ds Post) (hj : j ≤ k := by decide) (hg : Gl X x := by rfl) (hdb : (x == ("__debug__" : Str)) = false := by decide)
    (he : starEach (e :: es) X.env = (false, eval e X.env) :: starEach es X.env := by rfl) (hpl : (backTo pos (starEach es X.env)).any (·.1) = false := by rfl) : DX X W (.Call (.Name x fp) (e :: es) [] pos) ρ ds (framed A Post) := by
  obtain ⟨f, fd, h1, h2, h3, h4⟩ := F
  exact pe_imp (pe_call h4 (hr.mono hj) hg h1 h2 h3 .nil L2.pass0 ha hdb he hpl) fun σ H Q ⟨G, c, hd, q⟩ => ⟨G, c, fun vs G1 H1 g1 r1 => by
    show SpM R (vs ++ []) H1 Q _
    rw [List.append_nil]
    exact spm_go c hd g1 r1 hdH hW hA hR q⟩
theorem dx_meth {pl : Sem Bool} (F : MtM X.prog X.w X.K X.mg X.base j C m ps R) (cl : Cls X.K C) (hr : Room k X.A) (ho : DE X W o ρ (.v (.ref p))) (hob : ∀ G H, Same G H → W.p G H → ∃ dx fs, H p = some (.ins C dx fs) ∧ fs.lookup m = none) (ha : DA X W (e :: es) ρ ss)
    (hdH : ∀ G H, Same G H → W.p G H → ∀ d ∈ ds, ∃ o, H d = some o ∧ ∀ xs, o ≠ .tup xs) (hW : ∀ G H, Same G H → W.p G H → W0.p G H) (hA : ∀ G H, Same G H → (∀ d ∈ ds, G d = none) → W.p G H → A.p G (cut ds H)) (hR : R (.v (.ref p) :: ss) W0 ds Post) (hj : j ≤ k := by decide)
    (he : starEach (e :: es) X.env = (false, eval e X.env) :: starEach es X.env := by rfl) (hpl : (backTo pos (starEach es X.env)).any (·.1) = false := by rfl)
    (ht : eval (.Call (.Attribute o m apos) (e :: es) [] pos) X.env = (do
      let ov ← eval o X.env
      standAt apos.atName
      let (f, first) ← holding [ov] (getMethod ov m pl)
      callWith pos f first (backTo pos (starEach (e :: es) X.env)) (backToKw pos (keywordEach [] X.env))) := by rfl) : DX X W (.Call (.Attribute o m apos) (e :: es) [] pos) ρ ds (framed A Post) := by
  obtain ⟨f, fd, h1, h3, h4⟩ := F
  exact pe_imp (pe_meth (pl := pl) ho cl h1 h4 (hr.mono hj) h3 .nil L2.pass0 ha he hpl ht) fun σ H Q ⟨G, c, hd, q⟩ => ⟨G, c, fun v G1 H1 g1 r1 => by
    have ev : v = .ref p := r1
    subst ev
    obtain ⟨dx, fs, h5, h6⟩ := hob G1 H1 g1.i (c.step g1).w
    exact ⟨p, dx, fs, rfl, h5, h6, G1, c.step g1, fun vs G2 H2 g2 r2 => by
      show SpM R (V.ref p :: (vs ++ [])) H2 Q _
      rw [List.append_nil]
      exact spm_go (ss := .v (.ref p) :: ss) c hd (g1.trans g2) (.cons rfl r2) hdH hW hA hR q⟩⟩
theorem dx_meth0 {pl : Sem Bool} (F : MtM X.prog X.w X.K X.mg X.base j C m ps R) (cl : Cls X.K C) (hr : Room k X.A) (ho : DE X W o ρ (.v (.ref p))) (hob : ∀ G H, Same G H → W.p G H → ∃ dx fs, H p = some (.ins C dx fs) ∧ fs.lookup m = none)
    (hdH : ∀ G H, Same G H → W.p G H → ∀ d ∈ ds, ∃ o, H d = some o ∧ ∀ xs, o ≠ .tup xs) (hW : ∀ G H, Same G H → W.p G H → W0.p G H) (hA : ∀ G H, Same G H → (∀ d ∈ ds, G d = none) → W.p G H → A.p G (cut ds H)) (hR : R [.v (.ref p)] W0 ds Post) (hj : j ≤ k := by decide)
    (ht : eval (.Call (.Attribute o m apos) [] [] pos) X.env = (do
      let ov ← eval o X.env
      standAt apos.atName
      let (f, first) ← holding [ov] (getMethod ov m pl)
      callWith pos f first (backTo pos (starEach [] X.env)) (backToKw pos (keywordEach [] X.env))) := by rfl) : DX X W (.Call (.Attribute o m apos) [] [] pos) ρ ds (framed A Post) := by
  obtain ⟨f, fd, h1, h3, h4⟩ := F
  exact pe_imp (pe_meth0 (pl := pl) (E := E0) ho cl h1 h4 (hr.mono hj) h3 .nil L2.pass0 ht) fun σ H Q ⟨G, c, hd, q⟩ => ⟨G, c, fun v G1 H1 g1 r1 => by
    have ev : v = .ref p := r1
    subst ev
    obtain ⟨dx, fs, h5, h6⟩ := hob G1 H1 g1.i (c.step g1).w
    exact ⟨p, dx, fs, rfl, h5, h6, spm_go (E := E0) (ss := [.v (.ref p)]) c hd g1 (.cons rfl .nil) hdH hW hA hR q⟩⟩
/-- C(e, ..): the new object p, Post of its __init__ -/
theorem dx_make {Pst : Addr → PostT} (F : MkM X.prog X.w X.K X.mg X.base j x C ps R) (hr : Room k X.A) (ha : DA X W (e :: es) ρ ss) (hW : ∀ p G H, Same G H → W.p G H → (InsR C p).p G H → W0.p G H) (hR : ∀ p, R (.v (.ref p) :: ss) ((InsR C p).and W0) [p] (Pst p)) (hP : ∀ p N W1 r0, Pst p N W1 r0 → r0 = .d .none) (hj : j + 1 ≤ k := by decide) (hg : Gl X x := by rfl) (hdb : (x == ("__debug__" : Str)) = false := by decide)
    (he : starEach (e :: es) X.env = (false, eval e X.env) :: starEach es X.env := by rfl) (hpl : (backTo pos (starEach es X.env)).any (·.1) = false := by rfl) :
    DX X W (.Call (.Name x fp) (e :: es) [] pos) ρ [] (fun N W' r => ∃ p N0 W1 r0, Pst p N0 W1 r0 ∧ N = p :: N0 ∧ W' = W.and W1 ∧ r = .v (.ref p)) := by
  obtain ⟨f, fd, h1, h2, h3, h4⟩ := F
  exact pe_imp (pe_make h1 h4 (hr.mono hj) hg h2 h3 .nil L2.pass0 ha hdb he hpl) fun σ H Q ⟨G, c, hd, q⟩ => ⟨G, c, fun vs G1 H1 g1 r1 => by
    show ∀ x dx, H1 x = none → H1 dx = none → dx ≠ x → SpM R (V.ref x :: (vs ++ [])) (upd (upd H1 dx (.own x)) x (.ins C dx [])) (fun v H2 => v = .non ∧ Q (.ref x) H2) _
    intro p dx hp hdx hne
    rw [List.append_nil]
    have c1 := c.step g1
    have s2 : Same H1 (upd (upd H1 dx (.own p)) p (.ins C dx [])) := fun b u z => by
      rw [upd_ne (ne_of_none z hp), upd_ne (ne_of_none z hdx)]
      exact z
    have g2 : Gw G1 H1 G1 (upd (upd H1 dx (.own p)) p (.ins C dx [])) := .heap c1.s s2
    have c2 := c1.step g2
    have gp : G1 p = none := c1.s.free hp
    have ins : (InsR C p).p G1 (upd (upd H1 dx (.own p)) p (.ins C dx [])) := ⟨gp, dx, upd_same⟩
    refine ⟨G1, .v (.ref p) :: ss, (InsR C p).and W0, [p], Pst p, c2.s, ⟨ins, hW p _ _ c2.s c2.w ins⟩, fun d hd => by rw [List.mem_singleton.mp hd]; exact gp, .cons rfl r1, hR p, fun N W' r v G3 H3 hPn hN g3 hw r3 => ?_⟩
    have hv : Same H1 H3 := fun b u z => g3.h b u (by
      rw [cut_ne fun q => by rw [List.mem_singleton.mp q, hp] at z; cases z]
      exact s2 b u z)
    have g13 : Gw G1 H1 G3 H3 := ⟨g3.g, hv, g3.i, fun b u z n => by
      rcases g3.n b u z n with y | y
      · left
        by_cases hb : b = p
        · rw [hb]
          exact hp
        · rw [cut_ne fun q => hb (List.mem_singleton.mp q)] at y
          exact s2.free y
      · exact .inr y⟩
    refine ⟨?_, ?_⟩
    · have e := hP p N W' r hPn
      subst e
      cases r3
      rfl
    · refine q (p :: N) (W.and W') (.v (.ref p)) (.ref p) G3 H3 ⟨p, N, W', r, hPn, rfl, rfl, rfl⟩ (fun a ha => ?_) (by rw [cut_nil]; exact g1.trans g13) ⟨W.mono c.s (g1.trans g13) c.w, hw⟩ rfl
      rcases List.mem_cons.mp ha with z | z
      · rw [z]
        exact g1.h.free hp
      · exact g1.h.free (s2.free (hN a z))⟩
end
/-! statements -/
section
variable {X : Cx} {G0 H0 G1 : Hp} {W : Res} {ρ : Ro} {D : Ends} {pos : Pos} {e : Expr} {rest : List Stmt} {ds : List Addr} {Post : PostT}
/-- f(..), o.m(..) as a statement: what it changes is this body's own -/
theorem dx_drop (he : DX X W e ρ ds Post) (h0 : ∀ d ∈ ds, H0 d = none) (hG : ∀ d ∈ ds, ∀ G H, Same G H → W.p G H → G d = none) (k : ∀ N W' r, Post N W' r → (∀ a ∈ N, H0 a = none ∧ G1 a = none) → (∀ q : Addr, (∀ G H, Same G H → W.p G H → ∃ o, H q = some o) → q ∉ N) → DSs X rest (At G0 H0 G1 W' ρ) D) (hs : swapsWith e none pos.line X.env = pure false := by rfl) : DSs X (.Expr e pos :: rest) (At G0 H0 G1 W ρ) D := by
  refine d_cons (M := fun σ H => ∃ N W' r, (Post N W' r ∧ (∀ a ∈ N, H0 a = none ∧ G1 a = none) ∧ ∀ q : Addr, (∀ G H, Same G H → W.p G H → ∃ o, H q = some o) → q ∉ N) ∧ At G0 H0 G1 W' ρ σ H) ?_ (d_ex fun N => d_ex fun W' => d_ex fun r => d_and fun h => k N W' r h.1 h.2.1 h.2.2)
  refine dst_of (ps_expr he hs) fun σ H ⟨G, g, q, c⟩ => ⟨G, c, fun d hd => hG d hd G H c.s c.w, fun N W' r v G' H' hP hN g' hw r' => ⟨N, W', r, ⟨hP, fun a ha => ⟨g.h.free (hN a ha), (q.trans c.s).free (hN a ha)⟩, fun z hz hm => ?_⟩, G', g.anchor g' h0, q.trans g'.g, g'.i, hw, c.e.mono g'.g⟩⟩
  obtain ⟨u, hu⟩ := hz G H c.s c.w
  rw [hN z hm] at hu
  cases hu
/-- x = f(..), x = C(..) -/
theorem dx_set {i : Nat} {x : Str} {p' : Pos} (hN' : X.N.Nodup) (he : DX X W e ρ ds Post) (h0 : ∀ d ∈ ds, H0 d = none) (hG : ∀ d ∈ ds, ∀ G H, Same G H → W.p G H → G d = none) (k : ∀ N W' r, Post N W' r → (∀ a ∈ N, H0 a = none ∧ G1 a = none) → (∀ q : Addr, (∀ G H, Same G H → W.p G H → ∃ o, H q = some o) → q ∉ N) → DSs X rest (At G0 H0 G1 W' (ρ.set i (some r))) D) (hi : X.N[i]? = some x := by rfl) (hx : Loc X.env.scope x := by first | exact Or.inl rfl | exact Or.inr rfl)
    (hs : swapsWith e (some (.Name x p')) pos.line X.env = pure false := by rfl) (hf : X.fn x = true ∨ X.env.scope.names.lookup x = some .local := by first | exact Or.inl rfl | exact Or.inr rfl) : DSs X (.Assign [.Name x p'] e pos :: rest) (At G0 H0 G1 W ρ) D := by
  refine d_cons (M := fun σ H => ∃ N W' r, (Post N W' r ∧ (∀ a ∈ N, H0 a = none ∧ G1 a = none) ∧ ∀ q : Addr, (∀ G H, Same G H → W.p G H → ∃ o, H q = some o) → q ∉ N) ∧ At G0 H0 G1 W' (ρ.set i (some r)) σ H) ?_ (d_ex fun N => d_ex fun W' => d_ex fun r => d_and fun h => k N W' r h.1 h.2.1 h.2.2)
  refine dst_of (ps_set hN' hi hx he hs hf) fun σ H ⟨G, g, q, c⟩ => ⟨G, c, fun d hd => hG d hd G H c.s c.w, fun N W' r v G' H' hP hN g' hw r' => ⟨N, W', r, ⟨hP, fun a ha => ⟨g.h.free (hN a ha), (q.trans c.s).free (hN a ha)⟩, fun z hz hm => ?_⟩, G', g.anchor g' h0, q.trans g'.g, g'.i, hw, (c.e.mono g'.g).set r' i⟩⟩
  obtain ⟨u, hu⟩ := hz G H c.s c.w
  rw [hN z hm] at hu
  cases hu
end
end DL

/-! DL10: dicts keyed by pairs of whole numbers. -/
namespace DL
open PySem PySem.Spec L2
open PyProof.Rows hiding St
open PySem.W (Datum DatumOrd Tup T3 Holds HoldAll EachIs)
/-- an entry: the pair, True -/
def pk (q : Int × Int) : List Key := [Sum.inl q.1, Sum.inl q.2]
def ent (q : Int × Int) : List Key × V := (pk q, .bl true)
theorem pk_inj {q r : Int × Int} : pk q = pk r ↔ q = r := by
  constructor
  · intro h
    unfold pk at h
    injection h with h1 h2
    injection h2 with h2 _
    exact Prod.ext (Sum.inl.inj h1) (Sum.inl.inj h2)
  · rintro rfl
    rfl
theorem val_ent (q : Int × Int) : ∀ ps : List (Int × Int), (valV (ps.map ent) (pk q)).isSome = memB q ps
  | [] => by
    unfold memB
    simp [valV]
  | r :: ps => by
    have ih := val_ent q ps
    by_cases h : r = q
    · subst h
      have e : memB r (r :: ps) = true := memB_true.mpr List.mem_cons_self
      rw [e]
      show (valV (ent r :: ps.map ent) (ent r).1).isSome = true
      rw [valV_pos rfl]
      rfl
    · have e : memB q (r :: ps) = memB q ps := by
        unfold memB
        exact decide_eq_decide.mpr ⟨fun m => (List.mem_cons.mp m).resolve_left fun z => h z.symm, fun m => List.mem_cons_of_mem _ m⟩
      rw [e, List.map_cons, valV_neg (p := ent r) fun z => h (pk_inj.mp z), ih]
theorem put_ent {q : Int × Int} {ps : List (Int × Int)} (h : q ∉ ps) : putK (ps.map ent) (pk q) (.bl true) = (ps ++ [q]).map ent := by
  have e : valV (ps.map ent) (pk q) = none := by
    have z := val_ent q ps
    rw [memB_false.mpr h] at z
    cases r : valV (ps.map ent) (pk q) with
    | none => rfl
    | some v =>
      rw [r] at z
      cases z
  rw [putK_new _ e, List.map_append]
  rfl
/-- the ties without one -/
def without (q : Int × Int) (ps : List (Int × Int)) : List (Int × Int) := ps.filter fun r => !eqB r q
theorem drop_ent (q : Int × Int) : ∀ ps : List (Int × Int), dropK (ps.map ent) (pk q) = (without q ps).map ent
  | [] => rfl
  | r :: ps => by
    have ih := drop_ent q ps
    unfold dropK without at ih ⊢
    by_cases h : r = q
    · rw [List.map_cons, List.filter_cons_of_neg (by simp [ent, h]), List.filter_cons_of_neg (by rw [eqB_true.mpr h]; decide), ih]
    · rw [List.map_cons, List.filter_cons_of_pos (by
        rw [decide_eq_true_eq]
        exact fun z => h (pk_inj.mp z)), List.filter_cons_of_pos (by rw [eqB_false.mpr h]; rfl), ih, List.map_cons]
theorem rp_pair {G : Hp} {v : V} {q : Int × Int} (h : RepS G v (En q)) : ∃ b, v = .ref b ∧ G b = some (.tup ((pk q).map kV)) := by
  have h' : Rp G v (.tuple [.int q.1, .int q.2]) := h
  cases h' with
  | tup h1 h2 =>
    cases h2 with
    | cons a1 t =>
      cases t with
      | cons a2 t =>
        cases t
        cases a1
        cases a2
        exact ⟨_, rfl, h1⟩
section
variable {X : Cx} {W : Res} {ρ : Ro} {pos fp : Pos} {e a o : Expr} {d : Addr} {ps : List (Int × Int)} {q : Int × Int} {k : Nat}
theorem de_dinT (hr : Room k X.A) (ha : DE X W a ρ (En q)) (ho : DE X W o ρ (.v (.ref d))) (hd : ∀ G H, Same G H → W.p G H → H d = some (.dT (ps.map ent))) (hm : behindInMarks .In o = false := by rfl) : DE X W (.Compare a [.In] [o] pos) ρ (En (memB q ps)) :=
  pe_imp (pe_cmp (pc_din (hu_of hr) ha ho) hm) fun σ H Q ⟨G, c, k⟩ => ⟨G, c, fun x G1 H1 g1 r1 => ⟨G1, c.step g1, fun y G2 H2 g2 r2 => by
    have ey : y = .ref d := r2
    subst ey
    obtain ⟨b, rfl, hb⟩ := rp_pair r1
    have c2 := (c.step g1).step g2
    refine ⟨d, _, rfl, DGet.t (hd G2 H2 c2.s c2.w) (g2.h _ _ (g1.i _ _ hb)), ?_⟩
    rw [val_ent]
    exact k _ G2 H2 (g1.trans g2) (.bl _)⟩⟩
theorem dt_dinT (hr : Room k X.A) (ha : DE X W a ρ (En q)) (ho : DE X W o ρ (.v (.ref d))) (hd : ∀ G H, Same G H → W.p G H → H d = some (.dT (ps.map ent))) (hm : behindInMarks .In o = false := by rfl) : DT X W (.Compare a [.In] [o] pos) ρ (memB q ps) :=
  pt_imp (pt_cmp (pc_din (hu_of hr) ha ho) hm) fun σ H Q ⟨G, c, k⟩ => ⟨G, c, fun x G1 H1 g1 r1 => ⟨G1, c.step g1, fun y G2 H2 g2 r2 => by
    have ey : y = .ref d := r2
    subst ey
    obtain ⟨b, rfl, hb⟩ := rp_pair r1
    have c2 := (c.step g1).step g2
    refine ⟨d, _, rfl, DGet.t (hd G2 H2 c2.s c2.w) (g2.h _ _ (g1.i _ _ hb)), _, rfl, ?_⟩
    rw [val_ent]
    exact k G2 H2 (g1.trans g2)⟩⟩
theorem dt_dniT (hr : Room k X.A) (ha : DE X W a ρ (En q)) (ho : DE X W o ρ (.v (.ref d))) (hd : ∀ G H, Same G H → W.p G H → H d = some (.dT (ps.map ent))) (hm : behindInMarks .NotIn o = false := by rfl) : DT X W (.Compare a [.NotIn] [o] pos) ρ (!memB q ps) :=
  pt_imp (pt_cmp (pc_dnotin (hu_of hr) ha ho) hm) fun σ H Q ⟨G, c, k⟩ => ⟨G, c, fun x G1 H1 g1 r1 => ⟨G1, c.step g1, fun y G2 H2 g2 r2 => by
    have ey : y = .ref d := r2
    subst ey
    obtain ⟨b, rfl, hb⟩ := rp_pair r1
    have c2 := (c.step g1).step g2
    refine ⟨d, _, rfl, DGet.t (hd G2 H2 c2.s c2.w) (g2.h _ _ (g1.i _ _ hb)), _, rfl, ?_⟩
    rw [val_ent]
    exact k G2 H2 (g1.trans g2)⟩⟩
/-- some tuples of the heap, shared as well -/
def addT (G H : Hp) (bs : List Addr) : Hp := fun a => if a ∈ bs then H a else G a
theorem keys_rep {G H : Hp} {bs0 : List Addr} (hs : Same G H) (hb : ∀ b ∈ bs0, ∃ xs, H b = some (.tup xs)) : ∀ {ps : List (Int × Int)} {bs : List Addr}, (∀ b ∈ bs, b ∈ bs0) → IsKeys H (ps.map ent) bs → RpAll (addT G H bs0) (bs.map V.ref) (ps.map Datum.toD)
  | [], bs, _, h => by
    have h' : Paired _ [] bs := h
    cases h'
    exact .nil
  | q :: ps, bs, hm, h => by
    have h' : Paired _ (ent q :: ps.map ent) bs := h
    cases h' with
    | cons h1 h2 =>
      refine .cons (.tup (xs := (pk q).map kV) ?_ (.cons (.int _) (.cons (.int _) .nil))) (keys_rep hs hb (fun b hb' => hm b (List.mem_cons_of_mem _ hb')) h2)
      unfold addT
      rw [if_pos (hm _ List.mem_cons_self)]
      exact h1
theorem iskeys_tup {H : Hp} : ∀ {ps : List (Int × Int)} {bs : List Addr}, IsKeys H (ps.map ent) bs → ∀ b ∈ bs, ∃ xs, H b = some (.tup xs)
  | [], bs, h, b, hb => by
    have h' : Paired _ [] bs := h
    cases h'
    cases hb
  | q :: ps, bs, h, b, hb => by
    have h' : Paired _ (ent q :: ps.map ent) bs := h
    cases h' with
    | cons h1 h2 =>
      rcases List.mem_cons.mp hb with z | z
      · rw [z]
        exact ⟨_, h1⟩
      · exact iskeys_tup h2 b z
/-- list(d): the pairs in the order in which they were put in -/
theorem tn_keys (hc : X.calm = true) (hm : X.mg "list" = none) (ho : DE X W o ρ (.v (.ref d))) (hd : ∀ G H, Same G H → W.p G H → H d = some (.dT (ps.map ent))) (hg : Gl X "list" := by rfl) (sa : SA1 X o pos := by exact ⟨rfl, rfl⟩) : TN X W (.Call (.Name "list" fp) [o] [] pos) ρ ps :=
  pe_imp (pe_callTy (call_list_dT hc) hg hm (by decide +kernel) (da_cons ho da_nil sa.h) (he := sa.h) (hpl := sa.b)) fun σ H Q ⟨G, c, k⟩ => ⟨G, c, fun vs G1 H1 g1 r1 => by
    cases r1 with
    | cons h t =>
      cases t
      have ev : _ = V.ref d := h
      subst ev
      have c1 := c.step g1
      refine ⟨d, ps.map ent, rfl, .inl (hd _ _ c1.s c1.w), fun p bs hp hk => ?_⟩
      have ht := iskeys_tup hk
      have s1 : Same G1 (addT G1 H1 bs) := fun a u e => by
        unfold addT
        by_cases hb : a ∈ bs
        · rw [if_pos hb]
          exact c1.s a u e
        · rw [if_neg hb]
          exact e
      have s2 : Same (addT G1 H1 bs) H1 := fun a u e => by
        unfold addT at e
        by_cases hb : a ∈ bs
        · rw [if_pos hb] at e
          exact e
        · rw [if_neg hb] at e
          exact c1.s a u e
      have g2 : Gw G1 H1 (addT G1 H1 bs) (upd H1 p (.lst (bs.map V.ref))) := (Gw.heap c1.s (same_upd hp)).tups s1 (s2.trans (same_upd hp)) fun a u e => by
        unfold addT at e
        by_cases hb : a ∈ bs
        · rw [if_pos hb] at e
          obtain ⟨xs, hx⟩ := ht a hb
          rw [hx] at e
          exact .inr ⟨xs, (Option.some.inj e).symm⟩
        · rw [if_neg hb] at e
          exact .inl e
      exact k p _ _ _ (g1.trans g2) (g1.h.free hp) (s2.free hp) upd_same (keys_rep c1.s ht (fun b h => h) hk)⟩
end
/-! changes -/
section
variable {X : Cx} {G0 H0 G1 : Hp} {W A : Res} {ρ : Ro} {D : Ends} {pos fp : Pos} {e a o : Expr} {rest : List Stmt} {d : Addr} {ps : List (Int × Int)} {q : Int × Int} {k : Nat}
/-- the dict d, its pairs -/
def DicR (d : Addr) (ps : List (Int × Int)) : Res := ⟨fun G H => G d = none ∧ H d = some (.dT (ps.map ent)), fun s g ⟨h1, h2⟩ => ⟨g.nosh h2 (fun _ z => nomatch z) h1, g.h d _ h2⟩⟩
theorem frc_dic {d' : Addr} {ds : List Addr} {ps : List (Int × Int)} (h : d' ∉ ds) : Frc (DicR d' ps) ds := fun G H s g ⟨h1, h2⟩ => ⟨h1, by rw [cut_ne h]; exact h2⟩
theorem anchor_upd {G0 H0 G H : Hp} {d : Addr} {u : HO} (g : Gw G0 H0 G H) (h0 : H0 d = none) (hd : G d = none) : Gw G0 H0 G (upd H d u) :=
  ⟨g.g, fun b o z => by
    rw [upd_ne (ne_of_none z h0)]
    exact g.h b o z, fun b o z => by
    rw [upd_ne (ne_of_none z hd)]
    exact g.i b o z, g.n⟩
/-- d[q] = True -/
theorem d_dput {pos' : Pos} {val : Expr} (hr : Room k X.A) (hF : Frm A d) (h0 : H0 d = none) (hq : q ∉ ps) (hl : ps.length < 1000000) (ho : DE X (A.and (DicR d ps)) o ρ (.v (.ref d))) (ha : DE X (A.and (DicR d ps)) a ρ (En q)) (hv : DE X (A.and (DicR d ps)) val ρ (En true))
    (k : DSs X rest (At G0 H0 G1 (A.and (DicR d (ps ++ [q]))) ρ) D) (hs : swapsWith val (some (.Subscript o a pos')) pos.line X.env = pure false := by rfl) : DSs X (.Assign [.Subscript o a pos'] val pos :: rest) (At G0 H0 G1 (A.and (DicR d ps)) ρ) D := by
  refine d_cons (dst_of (ps_dput (hu_of hr) ho ha hv hs) fun σ H ⟨G, g, q0, c⟩ => ⟨G, c, fun v G2 H2 g2 r2 => ⟨G2, c.step g2, fun x G3 H3 g3 r3 => ⟨G3, (c.step g2).step g3, fun y G4 H4 g4 r4 => ?_⟩⟩⟩) k
  have ex : x = .ref d := r3
  subst ex
  cases r2
  obtain ⟨b, rfl, hb⟩ := rp_pair r4
  have c4 := ((c.step g2).step g3).step g4
  obtain ⟨hA, hd, hdT⟩ := c4.w
  refine ⟨d, _, rfl, DPut.t hdT (g4.i _ _ hb) (by rw [List.length_map, sizeLine_eq]; omega), G4, anchor_upd (((g.trans g2).trans g3).trans g4) h0 hd, ((q0.trans g2.g).trans g3.g).trans g4.g, fun b o z => ?_, ⟨hF _ _ _ c4.s hd hA, hd, ?_⟩, c4.e⟩
  · rw [upd_ne (ne_of_none z hd)]
    exact c4.s b o z
  · rw [put_ent hq]
    exact upd_same
/-- d.pop(q), there -/
def rPop1 (ps : List (Int × Int)) (q : Int × Int) : V → List V → Hp → VK → Prop := fun x xs H Q => ∃ d b, x = .ref d ∧ xs = [.ref b] ∧ H d = some (.dT (ps.map ent)) ∧ H b = some (.tup ((pk q).map kV)) ∧ q ∈ ps ∧ ∀ v, Q v (upd H d (.dT ((without q ps).map ent)))
theorem mt_pop1 (hu : X.A.units + 1 < cLine) : MtR X "dict.pop" (rPop1 ps q) := by
  intro pins s σ H x xs v us Q I rx rxs h
  obtain ⟨d, b, rfl, rfl, ha, hb, hq, q1⟩ := h
  cases rx
  obtain ⟨u1, rfl, r1⟩ := rxs.one
  cases r1
  obtain ⟨z, hd, xs', rel, dd⟩ := dt_of I.hok ha
  have hz : xs'.length ≤ sizeLine := by rw [← Paired.length rel]; exact z
  have r := rel.val (pk q)
  have hsome := val_ent q ps
  rw [memB_true.mpr hq] at hsome
  cases ev : valV (ps.map ent) (pk q) with
  | none =>
    rw [ev] at hsome
    cases hsome
  | some v0 =>
    rw [ev] at r
    cases ep : atKey xs' (pk q) with
    | none =>
      rw [ep] at r
      exact (show False from r).elim
    | some p =>
      rw [ep] at r
      refine call_pop_heap (hsz := hz) (.inl rfl) (PySem.F.args_dict_pop_2 _ _) (tupleKind_room_in1 hu) (key_of I.hok hb) hd dd ep fun h' dd' hs => ?_
      obtain ⟨o, es, epp, hq', h2, h3, h4, _, h5⟩ := dd'
      have I2 : Inv X pins σ (upd H d (.dT (dropK (ps.map ent) (pk q)))) { s with heap := h', toks := s.toks + (tupleKind (mixKind X.prog X.w)).draws (pk q) } :=
        d_write I (by rw [ha]; exact True.intro) hs ⟨o, hq'⟩ ⟨Nat.le_trans (dropK_le _ _) z, hd, _, (_root_.L2.DX.KT_drop (pk q) rel).keeps (fun c ys ec => (by rw [upd_ne (ne_of ec ha (fun z => nomatch z))]; exact ec)), o, es, epp, hq', h2, h3, h4, h5⟩
      rw [drop_ent] at I2
      exact ⟨v0, _, I2, r, q1 v0⟩
theorem d_dpop {cp ap : Pos} (hr : Room k X.A) (hF : Frm A d) (h0 : H0 d = none) (hq : q ∈ ps) (ho : DE X (A.and (DicR d ps)) o ρ (.v (.ref d))) (ha : DE X (A.and (DicR d ps)) a ρ (En q))
    (k : DSs X rest (At G0 H0 G1 (A.and (DicR d (without q ps))) ρ) D)
    (hm : ∀ {ta te : TE}, PE X o ta → PA X [a] (tCons te tNil) → PE X (.Call (.Attribute o "pop" ap) [a] [] cp) (tBM X.K "dict" (rPop1 ps q) ta (tCons te tNil)) := by exact fun ho ha => pe_bm PySem.F.plainAttrs_dict PySem.F.slot_dict_pop PySem.F.type_dict_pop (mt_pop1 (hu_of hr)) ho ha)
    (hst : starEach [a] X.env = (false, eval a X.env) :: starEach [] X.env := by rfl)
    (hs : swapsWith (.Call (.Attribute o "pop" ap) [a] [] cp) none pos.line X.env = pure false := by rfl) : DSs X (.Expr (.Call (.Attribute o "pop" ap) [a] [] cp) pos :: rest) (At G0 H0 G1 (A.and (DicR d ps)) ρ) D := by
  refine d_cons (dst_of (ps_expr (hm ho (pa_cons ha pa_nil hst)) hs) fun σ H ⟨G, g, q0, c⟩ => ⟨G, c, fun v G2 H2 g2 r2 => ?_⟩) k
  have ev : v = .ref d := r2
  subst ev
  have c2 := c.step g2
  refine ⟨.inr (.inr (.inl ⟨rfl, .inr ⟨_, c2.w.2.2⟩⟩)), G2, c2, fun y G3 H3 g3 r3 => ?_⟩
  · obtain ⟨b, rfl, hb⟩ := rp_pair r3
    have c3 := c2.step g3
    obtain ⟨hA, hd, hdT⟩ := c3.w
    refine ⟨d, b, rfl, rfl, hdT, g3.i _ _ hb, hq, fun v => ⟨G3, anchor_upd ((g.trans g2).trans g3) h0 hd, (q0.trans g2.g).trans g3.g, fun b o z => ?_, ⟨hF _ _ _ c3.s hd hA, hd, upd_same⟩, c3.e⟩⟩
    rw [upd_ne (ne_of_none z hd)]
    exact c3.s b o z
/-- {} for such a dict -/
theorem pe_dnew2 : PE X (.Dict [] [] pos) tDNewT := pe_dnewT
end
end DL

/-! DL11: instances, promises of defs that are handed an instance. -/
namespace DL
open PySem PySem.Spec L2
open PyProof.Rows hiding St
open PySem.W (Datum DatumOrd Tup T3 Holds HoldAll EachIs)
/-- the attributes of an instance -/
inductive FsR (G : Hp) : List (Str × V) → List (Str × Sl) → Prop where
  | nil : FsR G [] []
  | cons {f : Str} {v : V} {s : Sl} {gs : List (Str × V)} {fs : List (Str × Sl)} (h : RepS G v s) (t : FsR G gs fs) : FsR G ((f, v) :: gs) ((f, s) :: fs)
theorem FsR.mono {G G' : Hp} (g : Same G G') : ∀ {gs fs}, FsR G gs fs → FsR G' gs fs
  | _, _, .nil => .nil
  | _, _, .cons h t => .cons (h.mono g) (t.mono g)
theorem FsR.length {G : Hp} : ∀ {gs fs}, FsR G gs fs → gs.length = fs.length
  | _, _, .nil => rfl
  | _, _, .cons h t => by rw [List.length_cons, List.length_cons, t.length]
theorem FsR.look {G : Hp} {f : Str} {s : Sl} : ∀ {gs fs}, FsR G gs fs → fs.lookup f = some s → ∃ v, gs.lookup f = some v ∧ RepS G v s
  | _, _, .nil, h => by cases h
  | _, _, .cons (f := g) (gs := gs) (fs := fs) h t, e => by
    rw [List.lookup_cons] at e
    rw [List.lookup_cons]
    cases q : f == g with
    | true =>
      rw [q] at e
      cases e
      exact ⟨_, rfl, h⟩
    | false =>
      rw [q] at e
      exact t.look e
theorem FsR.lookN {G : Hp} {f : Str} : ∀ {gs fs}, FsR G gs fs → fs.lookup f = none → gs.lookup f = none
  | _, _, .nil, h => rfl
  | _, _, .cons (f := g) (gs := gs) (fs := fs) h t, e => by
    rw [List.lookup_cons] at e
    rw [List.lookup_cons]
    cases q : f == g with
    | true =>
      rw [q] at e
      cases e
    | false =>
      rw [q] at e
      exact t.lookN e
def putS (f : Str) (s : Sl) : List (Str × Sl) → List (Str × Sl)
  | [] => [(f, s)]
  | (g, x) :: r => if g = f then (g, s) :: r else (g, x) :: putS f s r
theorem FsR.put {G : Hp} {f : Str} {s : Sl} {v : V} (hv : RepS G v s) : ∀ {gs fs}, FsR G gs fs → FsR G (putF f v gs) (putS f s fs)
  | _, _, .nil => .cons hv .nil
  | _, _, .cons (f := g) h t => by
    unfold putF putS
    by_cases q : g = f
    · rw [if_pos q, if_pos q]
      exact .cons hv t
    · rw [if_neg q, if_neg q]
      exact .cons h (t.put hv)
/-- the instance p of the class at C -/
def InsD (C p : Addr) (fs : List (Str × Sl)) : Res := ⟨fun G H => G p = none ∧ ∃ dx gs, H p = some (.ins C dx gs) ∧ FsR G gs fs, fun s g ⟨h1, dx, gs, h2, h3⟩ => ⟨g.nosh h2 (fun _ z => nomatch z) h1, dx, gs, g.h p _ h2, h3.mono g.g⟩⟩
theorem insD_of {C p : Addr} {G H : Hp} (h : (InsR C p).p G H) : (InsD C p []).p G H := ⟨h.1, by
  obtain ⟨dx, h2⟩ := h.2
  exact ⟨dx, [], h2, .nil⟩⟩
theorem frc_ins {C p : Addr} {fs : List (Str × Sl)} {ds : List Addr} (h : p ∉ ds) : Frc (InsD C p fs) ds := fun G H s g ⟨h1, dx, gs, h2, h3⟩ => ⟨h1, dx, gs, by rw [cut_ne h]; exact h2, h3⟩
theorem ins_obj {C p : Addr} {fs : List (Str × Sl)} {G H : Hp} {m : Str} (h : (InsD C p fs).p G H) (hm : fs.lookup m = none) : ∃ dx gs, H p = some (.ins C dx gs) ∧ gs.lookup m = none := by
  obtain ⟨_, dx, gs, h2, h3⟩ := h
  exact ⟨dx, gs, h2, h3.lookN hm⟩
section
variable {X : Cx} {W : Res} {ρ : Ro} {pos : Pos} {o : Expr} {C p : Addr} {fs : List (Str × Sl)} {f : Str} {s : Sl}
/-- o.f -/
theorem de_att (cl : Cls X.K C) (nf : NoAttr X.K C f) (ho : DE X W o ρ (.v (.ref p))) (hW : ∀ G H, Same G H → W.p G H → (InsD C p fs).p G H) (hf : fs.lookup f = some s := by rfl) (hb : attributeBase o f X.env (eval o X.env) = eval o X.env := by rfl) : DE X W (.Attribute o f pos) ρ s :=
  de_fld cl nf ho (fun G H s w => by
    obtain ⟨_, dx, gs, h2, h3⟩ := hW G H s w
    obtain ⟨v, h4, h5⟩ := h3.look hf
    exact ⟨dx, gs, v, h2, h4, h5⟩) hb
end
section
variable {X : Cx} {G0 H0 G1 : Hp} {W A : Res} {ρ : Ro} {D : Ends} {pos pos' fp : Pos} {o val : Expr} {rest : List Stmt} {C p : Addr} {fs : List (Str × Sl)} {f : Str} {s : Sl}
/-- o.f = e -/
theorem d_att (cl : Cls X.K C) (nf : NoAttr X.K C f) (hF : Frm A p) (h0 : H0 p = none) (ho : DE X (A.and (InsD C p fs)) o ρ (.v (.ref p))) (hv : DE X (A.and (InsD C p fs)) val ρ s)
    (k : DSs X rest (At G0 H0 G1 (A.and (InsD C p (putS f s fs))) ρ) D) (hl : fs.length < 1000 := by decide) (hs : swapsWith val (some (.Attribute o f pos')) pos.line X.env = pure false := by rfl) : DSs X (.Assign [.Attribute o f pos'] val pos :: rest) (At G0 H0 G1 (A.and (InsD C p fs)) ρ) D := by
  refine d_cons (dst_of (ps_fld ho hv hs) fun σ H ⟨G, g, q0, c⟩ => ⟨G, c, fun y G2 H2 g2 r2 => ⟨G2, c.step g2, fun x G3 H3 g3 r3 => ?_⟩⟩) k
  have ex : x = .ref p := r3
  subst ex
  have c3 := (c.step g2).step g3
  obtain ⟨hA, hg, dx, gs, hH, hfs⟩ := c3.w
  refine ⟨p, C, dx, gs, rfl, hH, cl, nf, by rw [hfs.length]; exact hl, G3, anchor_upd ((g.trans g2).trans g3) h0 hg, (q0.trans g2.g).trans g3.g, fun b o z => ?_, ⟨hF _ _ _ c3.s hg hA, hg, dx, _, upd_same, hfs.put (r2.mono g3.g)⟩, c3.e⟩
  rw [upd_ne (ne_of_none z hg)]
  exact c3.s b o z
/-- o.f = {} -/
theorem d_attE (cl : Cls X.K C) (nf : NoAttr X.K C f) (hF : ∀ q, Frm A q) (h0 : H0 p = none) (ho : ∀ W', DE X W' o ρ (.v (.ref p)))
    (k : ∀ d, H0 d = none → d ≠ p → DSs X rest (At G0 H0 G1 ((A.and (InsD C p (putS f (.v (.ref d)) fs))).and (DicR d [])) ρ) D) (hl : fs.length < 1000 := by decide) (hs : swapsWith (.Dict [] [] fp) (some (.Attribute o f pos')) pos.line X.env = pure false := by rfl) : DSs X (.Assign [.Attribute o f pos'] (.Dict [] [] fp) pos :: rest) (At G0 H0 G1 (A.and (InsD C p fs)) ρ) D := by
  refine d_cons (M := fun σ H => ∃ d, (H0 d = none ∧ d ≠ p) ∧ At G0 H0 G1 ((A.and (InsD C p (putS f (.v (.ref d)) fs))).and (DicR d [])) ρ σ H) ?_ (d_ex fun d => d_and fun h => k d h.1 h.2)
  refine dst_of (ps_fld (ho R0) pe_dnewT hs) fun σ H ⟨G, g, q0, c⟩ => fun d hd => ?_
  obtain ⟨hA, hg, dx, gs, hH, hfs⟩ := c.w
  have gd : G d = none := c.s.free hd
  have ne : d ≠ p := fun e => by
    rw [e, hH] at hd
    cases hd
  have g1 : Gw G H G (upd H d (.dT [])) := .heap c.s (same_upd hd)
  have c1 := c.step g1
  refine ⟨G, ⟨c1.s, trivial, c.e⟩, fun x G3 H3 g3 r3 => ?_⟩
  have ex : x = .ref p := r3
  subst ex
  have c3 := c1.step g3
  obtain ⟨hA3, hg3, dx3, gs3, hH3, hfs3⟩ := c3.w
  have gd3 : G3 d = none := g3.nosh upd_same (fun _ z => nomatch z) gd
  refine ⟨p, C, dx3, gs3, rfl, hH3, cl, nf, by rw [hfs3.length]; exact hl, d, ⟨g.h.free hd, ne⟩, G3, anchor_upd ((g.trans g1).trans g3) h0 hg3, (q0.trans g1.g).trans g3.g, fun b o z => ?_, ⟨⟨hF _ _ _ _ c3.s hg3 hA3, hg3, dx3, _, upd_same, hfs3.put (v := .ref d) (s := .v (.ref d)) (show V.ref d = V.ref d from rfl)⟩, gd3, ?_⟩, c3.e⟩
  · rw [upd_ne (ne_of_none z hg3)]
    exact c3.s b o z
  · rw [upd_ne ne]
    exact g3.h d _ upd_same
end
/-! promises over an instance -/
section
variable {S α β γ ζ : Type} [DecidableEq α] [Datum α] [DecidableEq β] [Datum β] [DecidableEq γ] [Datum γ] [DecidableEq ζ] [Datum ζ] {OR : Addr → S → Res}
def O0 (OR : Addr → S → Res) (pre : S → Prop) (f : S → ζ) : List Sl → Res → Sl → Prop := fun ss W r => ∃ p s, ss = [.v (.ref p)] ∧ W = OR p s ∧ pre s ∧ r = En (f s)
def O1 (OR : Addr → S → Res) (pre : S → α → Prop) (f : S → α → ζ) : List Sl → Res → Sl → Prop := fun ss W r => ∃ p s a, ss = [.v (.ref p), En a] ∧ W = OR p s ∧ pre s a ∧ r = En (f s a)
def O2 (OR : Addr → S → Res) (pre : S → α → β → Prop) (f : S → α → β → ζ) : List Sl → Res → Sl → Prop := fun ss W r => ∃ p s a b, ss = [.v (.ref p), En a, En b] ∧ W = OR p s ∧ pre s a b ∧ r = En (f s a b)
def O3 (OR : Addr → S → Res) (pre : S → α → β → γ → Prop) (f : S → α → β → γ → ζ) : List Sl → Res → Sl → Prop := fun ss W r => ∃ p s a b c, ss = [.v (.ref p), En a, En b, En c] ∧ W = OR p s ∧ pre s a b c ∧ r = En (f s a b c)
theorem O0.len {pre : S → Prop} {f : S → ζ} : ∀ ss W r, O0 OR pre f ss W r → ss.length = 1 := fun ss W r ⟨_, _, e, _⟩ => by rw [e]; rfl
theorem O1.len {pre : S → α → Prop} {f : S → α → ζ} : ∀ ss W r, O1 OR pre f ss W r → ss.length = 2 := fun ss W r ⟨_, _, _, e, _⟩ => by rw [e]; rfl
theorem O2.len {pre : S → α → β → Prop} {f : S → α → β → ζ} : ∀ ss W r, O2 OR pre f ss W r → ss.length = 3 := fun ss W r ⟨_, _, _, _, e, _⟩ => by rw [e]; rfl
theorem O3.len {pre : S → α → β → γ → Prop} {f : S → α → β → γ → ζ} : ∀ ss W r, O3 OR pre f ss W r → ss.length = 4 := fun ss W r ⟨_, _, _, _, _, e, _⟩ => by rw [e]; rfl
/-- an object of the kind is an instance of the class at C, without an attribute m of its own -/
def IsO (OR : Addr → S → Res) (C : Addr) (m : Str) : Prop := ∀ p s G H, (OR p s).p G H → ∃ dx fs, H p = some (.ins C dx fs) ∧ fs.lookup m = none
variable {X : Cx} {W : Res} {ρ : Ro} {pos fp apos : Pos} {o ea eb ec : Expr} {k j : Nat} {x m : Str} {ps : List Str} {a : α} {b : β} {c : γ} {s : S} {p C : Addr}
theorem om0 {pl : Sem Bool} {pre : S → Prop} {f : S → ζ} (F : MtG X.prog X.w X.K X.mg X.base j C m ps (O0 OR pre f)) (cl : Cls X.K C) (iso : IsO OR C m) (hr : Room k X.A) (ho : DE X W o ρ (.v (.ref p))) (hW : ∀ G H, Same G H → W.p G H → (OR p s).p G H) (hp : pre s) (hj : j ≤ k := by decide)
    (ht : eval (.Call (.Attribute o m apos) [] [] pos) X.env = (do
      let ov ← eval o X.env
      standAt apos.atName
      let (f, first) ← holding [ov] (getMethod ov m pl)
      callWith pos f first (backTo pos (starEach [] X.env)) (backToKw pos (keywordEach [] X.env))) := by rfl) : DE X W (.Call (.Attribute o m apos) [] [] pos) ρ (En (f s)) :=
  de_meth0 (pl := pl) F cl hr ho (fun G H q w => iso p s G H (hW G H q w)) hW ⟨p, s, rfl, rfl, hp, rfl⟩ hj ht
theorem om1 {pl : Sem Bool} {pre : S → α → Prop} {f : S → α → ζ} (F : MtG X.prog X.w X.K X.mg X.base j C m ps (O1 OR pre f)) (cl : Cls X.K C) (iso : IsO OR C m) (hr : Room k X.A) (ho : DE X W o ρ (.v (.ref p))) (hW : ∀ G H, Same G H → W.p G H → (OR p s).p G H) (h1 : DE X W ea ρ (En a)) (hp : pre s a) (hj : j ≤ k := by decide)
    (sa : SAs X ea [] pos := by exact ⟨rfl, rfl⟩)
    (ht : eval (.Call (.Attribute o m apos) [ea] [] pos) X.env = (do
      let ov ← eval o X.env
      standAt apos.atName
      let (f, first) ← holding [ov] (getMethod ov m pl)
      callWith pos f first (backTo pos (starEach [ea] X.env)) (backToKw pos (keywordEach [] X.env))) := by rfl) : DE X W (.Call (.Attribute o m apos) [ea] [] pos) ρ (En (f s a)) :=
  de_meth (pl := pl) F cl hr ho (fun G H q w => iso p s G H (hW G H q w)) (da_cons h1 da_nil sa.he) hW ⟨p, s, a, rfl, rfl, hp, rfl⟩ hj sa.he sa.hpl ht
theorem om2 {pl : Sem Bool} {pre : S → α → β → Prop} {f : S → α → β → ζ} (F : MtG X.prog X.w X.K X.mg X.base j C m ps (O2 OR pre f)) (cl : Cls X.K C) (iso : IsO OR C m) (hr : Room k X.A) (ho : DE X W o ρ (.v (.ref p))) (hW : ∀ G H, Same G H → W.p G H → (OR p s).p G H) (h1 : DE X W ea ρ (En a)) (h2 : DE X W eb ρ (En b)) (hp : pre s a b) (hj : j ≤ k := by decide)
    (sa : SAs X ea [eb] pos := by exact ⟨rfl, rfl⟩) (sb : SAs X eb [] pos := by exact ⟨rfl, rfl⟩)
    (ht : eval (.Call (.Attribute o m apos) [ea, eb] [] pos) X.env = (do
      let ov ← eval o X.env
      standAt apos.atName
      let (f, first) ← holding [ov] (getMethod ov m pl)
      callWith pos f first (backTo pos (starEach [ea, eb] X.env)) (backToKw pos (keywordEach [] X.env))) := by rfl) : DE X W (.Call (.Attribute o m apos) [ea, eb] [] pos) ρ (En (f s a b)) :=
  de_meth (pl := pl) F cl hr ho (fun G H q w => iso p s G H (hW G H q w)) (da_cons h1 (da_cons h2 da_nil sb.he) sa.he) hW ⟨p, s, a, b, rfl, rfl, hp, rfl⟩ hj sa.he sa.hpl ht
theorem og0 {pre : S → Prop} {f : S → ζ} (F : FnG X.prog X.w X.K X.mg X.base j x ps (O0 OR pre f)) (hr : Room k X.A) (ho : DE X W o ρ (.v (.ref p))) (hW : ∀ G H, Same G H → W.p G H → (OR p s).p G H) (hp : pre s) (hj : j ≤ k := by decide) (hg : Gl X x := by rfl) (hdb : (x == ("__debug__" : Str)) = false := by decide)
    (sa : SAs X o [] pos := by exact ⟨rfl, rfl⟩) : DE X W (.Call (.Name x fp) [o] [] pos) ρ (En (f s)) :=
  de_call F hr (da_cons ho da_nil sa.he) hW ⟨p, s, rfl, rfl, hp, rfl⟩ hj hg hdb sa.he sa.hpl
theorem og1 {pre : S → α → Prop} {f : S → α → ζ} (F : FnG X.prog X.w X.K X.mg X.base j x ps (O1 OR pre f)) (hr : Room k X.A) (ho : DE X W o ρ (.v (.ref p))) (hW : ∀ G H, Same G H → W.p G H → (OR p s).p G H) (h1 : DE X W ea ρ (En a)) (hp : pre s a) (hj : j ≤ k := by decide) (hg : Gl X x := by rfl) (hdb : (x == ("__debug__" : Str)) = false := by decide)
    (sa : SAs X o [ea] pos := by exact ⟨rfl, rfl⟩) (sb : SAs X ea [] pos := by exact ⟨rfl, rfl⟩) : DE X W (.Call (.Name x fp) [o, ea] [] pos) ρ (En (f s a)) :=
  de_call F hr (da_cons ho (da_cons h1 da_nil sb.he) sa.he) hW ⟨p, s, a, rfl, rfl, hp, rfl⟩ hj hg hdb sa.he sa.hpl
theorem og2 {pre : S → α → β → Prop} {f : S → α → β → ζ} (F : FnG X.prog X.w X.K X.mg X.base j x ps (O2 OR pre f)) (hr : Room k X.A) (ho : DE X W o ρ (.v (.ref p))) (hW : ∀ G H, Same G H → W.p G H → (OR p s).p G H) (h1 : DE X W ea ρ (En a)) (h2 : DE X W eb ρ (En b)) (hp : pre s a b) (hj : j ≤ k := by decide) (hg : Gl X x := by rfl) (hdb : (x == ("__debug__" : Str)) = false := by decide)
    (sa : SAs X o [ea, eb] pos := by exact ⟨rfl, rfl⟩) (sb : SAs X ea [eb] pos := by exact ⟨rfl, rfl⟩) (sc : SAs X eb [] pos := by exact ⟨rfl, rfl⟩) : DE X W (.Call (.Name x fp) [o, ea, eb] [] pos) ρ (En (f s a b)) :=
  de_call F hr (da_cons ho (da_cons h1 (da_cons h2 da_nil sc.he) sb.he) sa.he) hW ⟨p, s, a, b, rfl, rfl, hp, rfl⟩ hj hg hdb sa.he sa.hpl
theorem og3 {pre : S → α → β → γ → Prop} {f : S → α → β → γ → ζ} (F : FnG X.prog X.w X.K X.mg X.base j x ps (O3 OR pre f)) (hr : Room k X.A) (ho : DE X W o ρ (.v (.ref p))) (hW : ∀ G H, Same G H → W.p G H → (OR p s).p G H) (h1 : DE X W ea ρ (En a)) (h2 : DE X W eb ρ (En b)) (h3 : DE X W ec ρ (En c)) (hp : pre s a b c) (hj : j ≤ k := by decide) (hg : Gl X x := by rfl) (hdb : (x == ("__debug__" : Str)) = false := by decide)
    (sa : SAs X o [ea, eb, ec] pos := by exact ⟨rfl, rfl⟩) (sb : SAs X ea [eb, ec] pos := by exact ⟨rfl, rfl⟩) (sc : SAs X eb [ec] pos := by exact ⟨rfl, rfl⟩) (sd : SAs X ec [] pos := by exact ⟨rfl, rfl⟩) : DE X W (.Call (.Name x fp) [o, ea, eb, ec] [] pos) ρ (En (f s a b c)) :=
  de_call F hr (da_cons ho (da_cons h1 (da_cons h2 (da_cons h3 da_nil sd.he) sc.he) sb.he) sa.he) hW ⟨p, s, a, b, c, rfl, rfl, hp, rfl⟩ hj hg hdb sa.he sa.hpl
end
/-! ### a web -/
structure WS where
  d : Addr
  n : Int
  ps : List (Int × Int)
def WebI (C p : Addr) (s : WS) : Res := InsD C p [("size", En s.n), ("pairs", .v (.ref s.d))]
def WebR (C p : Addr) (s : WS) : Res := (WebI C p s).and (DicR s.d s.ps)
theorem frc_web {C p : Addr} {s : WS} {ds : List Addr} (h1 : p ∉ ds) (h2 : s.d ∉ ds) : Frc (WebR C p s) ds := frc_and (frc_ins h1) (frc_dic h2)
theorem web_is (C : Addr) {m : Str} (h1 : (m == ("size" : Str)) = false := by decide) (h2 : (m == ("pairs" : Str)) = false := by decide) : IsO (WebR C) C m := fun p s G H h => ins_obj h.1 (by
  rw [List.lookup_cons, h1]
  show List.lookup m [("pairs", _)] = none
  rw [List.lookup_cons, h2]
  rfl)
end DL

/-! DL12: a list of lists, all of one's own. -/
namespace DL
open PySem PySem.Spec L2
open PyProof.Rows hiding St
open PySem.W (Datum DatumOrd Tup T3 Holds HoldAll EachIs)
inductive LLs (G H : Hp) : List Addr → List (List PyData) → Prop where
  | nil : LLs G H [] []
  | cons {a : Addr} {as : List Addr} {ds : List PyData} {dss : List (List PyData)} {vs : List V} (g : G a = none) (h : H a = some (.lst vs)) (r : RpAll G vs ds) (t : LLs G H as dss) : LLs G H (a :: as) (ds :: dss)
theorem LLs.mono {G H G' H' : Hp} (g : Gw G H G' H') : ∀ {as dss}, LLs G H as dss → LLs G' H' as dss
  | _, _, .nil => .nil
  | _, _, .cons h1 h2 h3 t => .cons (g.nosh h2 (fun _ z => nomatch z) h1) (g.h _ _ h2) (rpAll_mono g.g _ _ h3) (t.mono g)
theorem LLs.length {G H : Hp} : ∀ {as dss}, LLs G H as dss → as.length = dss.length
  | _, _, .nil => rfl
  | _, _, .cons _ _ _ t => by rw [List.length_cons, List.length_cons, t.length]
theorem LLs.get {G H : Hp} : ∀ {as dss} {j : Nat} {a : Addr}, LLs G H as dss → as[j]? = some a → ∃ ds vs, dss[j]? = some ds ∧ G a = none ∧ H a = some (.lst vs) ∧ RpAll G vs ds
  | _, _, j, a, .nil, h => by simp at h
  | _, _, 0, a, .cons h1 h2 h3 t, h => by
    simp only [List.getElem?_cons_zero] at h
    cases h
    exact ⟨_, _, rfl, h1, h2, h3⟩
  | _, _, j + 1, a, .cons h1 h2 h3 t, h => by
    simp only [List.getElem?_cons_succ] at h
    obtain ⟨ds, vs, q⟩ := t.get (j := j) h
    exact ⟨ds, vs, by rw [List.getElem?_cons_succ]; exact q.1, q.2⟩
theorem LLs.upd {G H : Hp} {b : Addr} {o : HO} : ∀ {as dss}, LLs G H as dss → b ∉ as → LLs G (upd H b o) as dss
  | _, _, .nil, _ => .nil
  | _, _, .cons h1 h2 h3 t, n => .cons h1 (by rw [upd_ne fun q => n (by rw [q]; exact List.mem_cons_self)]; exact h2) h3 (t.upd fun q => n (List.mem_cons_of_mem _ q))
theorem LLs.set {G H : Hp} {a : Addr} {vs : List V} {ds : List PyData} (r : RpAll G vs ds) : ∀ {as dss} {j : Nat}, LLs G H as dss → as.Nodup → as[j]? = some a → LLs G (L2.upd H a (.lst vs)) as (dss.set j ds)
  | _, _, j, .nil, _, h => by simp at h
  | _, _, 0, .cons h1 h2 h3 t, nd, h => by
    simp only [List.getElem?_cons_zero] at h
    cases h
    exact .cons h1 upd_same r (t.upd (List.nodup_cons.mp nd).1)
  | _, _, j + 1, .cons (a := b) h1 h2 h3 t, nd, h => by
    simp only [List.getElem?_cons_succ] at h
    obtain ⟨n1, n2⟩ := List.nodup_cons.mp nd
    refine .cons h1 ?_ h3 (LLs.set r t n2 h)
    rw [upd_ne fun q => n1 (by rw [q]; exact List.mem_of_getElem? h)]
    exact h2
theorem LLs.append {G H : Hp} {a : Addr} {ds : List PyData} {vs : List V} (g : G a = none) (h : H a = some (.lst vs)) (r : RpAll G vs ds) : ∀ {as dss}, LLs G H as dss → LLs G H (as ++ [a]) (dss ++ [ds])
  | _, _, .nil => .cons g h r .nil
  | _, _, .cons h1 h2 h3 t => .cons h1 h2 h3 (t.append g h r)
theorem LLs.mem {G H : Hp} : ∀ {as dss} {a : Addr}, LLs G H as dss → a ∈ as → G a = none ∧ ∃ vs, H a = some (.lst vs)
  | _, _, a, .nil, h => by cases h
  | _, _, a, .cons h1 h2 h3 t, h => by
    rcases List.mem_cons.mp h with q | q
    · rw [q]
      exact ⟨h1, _, h2⟩
    · exact t.mem q
def OwnLL (p : Addr) (as : List Addr) (dss : List (List PyData)) : Res := ⟨fun G H => G p = none ∧ H p = some (.lst (as.map V.ref)) ∧ LLs G H as dss, fun s g ⟨h1, h2, h3⟩ => ⟨g.nosh h2 (fun _ z => nomatch z) h1, g.h _ _ h2, h3.mono g⟩⟩
def tNN (W : Res) (ρ : Ro) (dss : List (List PyData)) : TE := fun σ H Q => ∃ G, Cxt W ρ G σ H ∧ ∀ p as G' H', Gw G H G' H' → H p = none → G' p = none → p ∉ as → as.Nodup → (∀ a ∈ as, H a = none) → H' p = some (.lst (as.map V.ref)) → LLs G' H' as dss → Q (.ref p) H'
section
variable {X : Cx} {W : Res} {ρ : Ro} {pos : Pos} {tg : Expr} {α : Type}
def lcEO (W : Res) (xs : List α) (fd : α → List PyData) (ρ' : α → Ro) : TE := fun σ H Q => ∃ x, x ∈ xs ∧ tN W (ρ' x) (fd x) σ H Q
theorem lc_readO (vs : List Nat) (xs : List α) (ea : α → Sl) (fd : α → List PyData) (ρ' : α → Ro) {σ : L2.St} {H : Hp} {Q : VK} (h : tNN W ρ (xs.map fd) σ H Q) : tLc (tIh W ρ (xs.map ea)) (lcG W ρ vs xs ea ρ') (lcT W xs (fun _ => true) ρ') (lcEO W xs fd ρ') vs σ H Q := by
  obtain ⟨G, c, k⟩ := h
  refine ⟨G, c, fun J G1 H1 g1 wk D hD => ?_⟩
  have c1 := c.step g1
  have gD : G1 D = none := c1.s.free hD
  refine ⟨fun i m H' => m = xs.length - i ∧ ∃ G', Gw G1 H1 G' H' ∧ G' D = none ∧ ∃ as, H' D = some (.lst (as.map V.ref)) ∧ as.length ≤ i ∧ as.Nodup ∧ (∀ a ∈ as, H1 a = none ∧ a ≠ D) ∧ LLs G' H' as ((xs.take i).map fd), ⟨xs.length, rfl, G1, .heap c1.s (same_upd hD), gD, [], upd_same, Nat.zero_le _, List.nodup_nil, (fun a z => by cases z), .nil⟩, ?_⟩
  rintro i m H' ⟨rfl, G', g', gD', as, hacc, hal, nd, hn, racc⟩
  by_cases hi' : i < xs.length
  · refine .inr ⟨wk.go i H' g'.h (by rw [List.length_map]; exact hi'), fun H2 => ∃ G2, Gw G1 H1 G2 H2 ∧ G2 D = none ∧ ∃ as, H2 D = some (.lst (as.map V.ref)) ∧ as.length ≤ i + 1 ∧ as.Nodup ∧ (∀ a ∈ as, H1 a = none ∧ a ≠ D) ∧ LLs G2 H2 as ((xs.take (i + 1)).map fd), fun H2 ⟨G2, q⟩ => ⟨xs.length - (i + 1), by omega, rfl, G2, q⟩, fun y H2 hy => ?_⟩
    have hx : xs[i]? = some xs[i] := List.getElem?_eq_getElem hi'
    have hmem : xs[i] ∈ xs := List.getElem_mem hi'
    obtain ⟨G2, g2, r2⟩ := wk.yld i G' H' y H2 (ea xs[i]) g'.h g'.g g'.i (by rw [List.getElem?_map, hx]; rfl) hy
    have gD2 : G2 D = none := g2.nosh hacc (fun _ z => nomatch z) gD'
    have g12 := g'.trans g2
    have hD2 := g2.h D _ hacc
    refine ⟨xs[i], hmem, G2, ⟨g2.i, W.mono c1.s g12 c1.w, (c1.e.mono g12.g).wipe _⟩, r2, fun σ2 e2 s2 => ⟨wipe_same s2, xs[i], hmem, G2, ⟨g2.i, W.mono c1.s g12 c1.w, e2⟩, fun G3 H3 g3 => ?_⟩⟩
    have gD3 : G3 D = none := g3.nosh hD2 (fun _ z => nomatch z) gD2
    have hD3 := g3.h D _ hD2
    have g13 := g12.trans g3
    have htk : xs.take (i + 1) = xs.take i ++ [xs[i]] := List.take_succ_eq_append_getElem hi'
    refine iteT ⟨xs[i], hmem, G3, ⟨g3.i, W.mono c1.s g13 c1.w, e2.mono g3.g⟩, fun a ys G4 H4 g4 ha3 ga4 hy4 r4 => ?_⟩
    have gD4 : G4 D = none := g4.nosh hD3 (fun _ z => nomatch z) gD3
    have hD4 := g4.h D _ hD3
    have g14 := g13.trans g4
    have naD : a ≠ D := fun e => by
      rw [e, hD3] at ha3
      cases ha3
    have r3 := racc.mono (g2.trans g3)
    have naas : a ∉ as := fun q => by
      obtain ⟨_, vs, hv⟩ := r3.mem q
      rw [ha3] at hv
      cases hv
    have nDas : D ∉ as := fun q => (hn D q).2 rfl
    have r5 := (((r3.mono g4).append ga4 hy4 r4).upd (b := D) (o := .lst ((as ++ [a]).map V.ref)) fun q => by
      rcases List.mem_append.mp q with z | z
      · exact nDas z
      · exact naD (List.mem_singleton.mp z).symm)
    refine ⟨as.map V.ref, hD4, ?_, G4, ⟨g14.g, fun b o q => ?_, fun b o q => ?_, g14.n⟩, gD4, as ++ [a], ?_, by rw [List.length_append, List.length_singleton]; omega, ?_, ?_, ?_⟩
    · have hw := wk.len
      rw [List.length_map] at hw
      rw [List.length_map]
      omega
    · rw [upd_ne (ne_of_none q hD)]
      exact g14.h b o q
    · rw [upd_ne (ne_of_none q gD4)]
      exact g14.i b o q
    · rw [List.map_append]
      exact upd_same
    · exact List.nodup_append.mpr ⟨nd, List.nodup_cons.mpr ⟨List.not_mem_nil, List.nodup_nil⟩, fun x hx y hy e => naas (by rw [← List.mem_singleton.mp hy, ← e]; exact hx)⟩
    · intro b hb
      rcases List.mem_append.mp hb with z | z
      · exact hn b z
      · rw [List.mem_singleton.mp z]
        exact ⟨g13.h.free ha3, naD⟩
    · rw [htk, List.map_append]
      rw [List.map_append] at r5
      exact r5
  · have hle : xs.length ≤ i := by omega
    refine .inl ⟨wk.stop i H' g'.h (by rw [List.length_map]; exact hle), k D as G' H' (g1.trans g') (g1.h.free hD) gD' (fun q => (hn D q).2 rfl) nd (fun a ha => g1.h.free (hn a ha).1) hacc ?_⟩
    rw [List.take_of_length_le hle] at racc
    exact racc
theorem lceO_ok {elt : Expr} {scope : Scope} {xs : List α} {fd : α → List PyData} {ρ' : α → Ro}
    (he : ∀ x, x ∈ xs → ∀ (s : Shared) (H : Hp) (C : Addr) (cl : List (Str × Addr)) (fp : List Addr), DN (X.blk s H scope (compEnvC scope cl C X.env) fp) W elt (ρ' x) (fd x))
    (s : Shared) (H : Hp) (C : Addr) (cl : List (Str × Addr)) (fp : List Addr) : PE (X.blk s H scope (compEnvC scope cl C X.env) fp) elt (lcEO W xs fd ρ') := ⟨fun pins st σ H' Q I ⟨x, hx, q⟩ => (he x hx s H C cl fp).run pins st σ H' Q I q⟩
/-- y = [[..] for ..] : all lists are one's own -/
theorem pn_lcO {i : Nat} {y : Str} {py spos : Pos} {elt iter : Expr} {scope : Scope} (own : List (Str × Nat)) (xs : List α) (ea : α → Sl) (fd : α → List PyData) (ρ' : α → Ro) (hc : X.calm = true) (hN : X.N.Nodup) (hi : DIh X W tg iter ρ (xs.map ea)) (ok : BlkOk X.N X.env.scope scope own)
    (hg : ∀ x, x ∈ xs → ∀ (s : Shared) (H : Hp) (C : Addr) (cl : List (Str × Addr)) (fp : List Addr), DG (X.blk s H scope (compEnvC scope cl C X.env) fp) W tg (wipeR ρ (own.map (·.2))) (ea x) (ρ' x) (own.map (·.2)))
    (he : ∀ x, x ∈ xs → ∀ (s : Shared) (H : Hp) (C : Addr) (cl : List (Str × Addr)) (fp : List Addr), DN (X.blk s H scope (compEnvC scope cl C X.env) fp) W elt (ρ' x) (fd x))
    (hy : X.N[i]? = some y := by rfl) (hyl : X.env.scope.names.lookup y = some .local := by rfl)
    (hsw : swapsWith (.ListComp elt [⟨tg, iter, [], 0⟩] scope pos) (some (.Name y py)) spos.line X.env = pure true := by rfl)
    (hs : ∀ x, foldedSetIterable iter X.env x = pure x := by intro _; rfl) : PS X (.Assign [.Name y py] (.ListComp elt [⟨tg, iter, [], 0⟩] scope pos) spos) (tAsg (tNN W ρ (xs.map fd)) (gName i)) := by
  have ht : ∀ x, x ∈ xs → ∀ (s : Shared) (H : Hp) (C : Addr) (cl : List (Str × Addr)) (fp : List Addr), PTs (X.blk s H scope (compEnvC scope cl C X.env) fp) [] (tT W (ρ' x) ((fun _ => true) x)) := fun x hx _ _ _ _ _ => dts_nil
  have h := ps_setLc hc hN hy hyl hsw hi ok (lcg_ok hg) (lct_ok (p := fun _ => true) ht) (lceO_ok he) hs
  exact ⟨fun pins s σ H D I q => h.run pins s σ H D I (lc_readO _ xs ea fd ρ' q)⟩
theorem de_ixO {o e : Expr} {p a : Addr} {as : List Addr} {i : Int} (ho : DE X W o ρ (.v (.ref p))) (hi : DE X W e ρ (En i)) (hW : ∀ G H, Same G H → W.p G H → H p = some (.lst (as.map V.ref))) (h : atI as i = some a) (hs : PlainIx e := by intro _ _; rfl) : DE X W (.Subscript o e pos) ρ (.v (.ref a)) :=
  pe_imp (pe_ix ix_list ho hi hs) fun σ H Q ⟨G, c, k⟩ => ⟨G, c, fun x G1 H1 g1 r1 => ⟨G1, c.step g1, fun y G2 H2 g2 r2 => by
    have ex : x = .ref p := r1
    subst ex
    cases r2
    have c2 := (c.step g1).step g2
    exact ⟨p, as.map V.ref, i, .ref a, rfl, rfl, .inl (.inl (hW G2 H2 c2.s c2.w)), by rw [atI_map, h]; rfl, k (.ref a) G2 H2 (g1.trans g2) rfl⟩⟩⟩
end
section
variable {X : Cx} {G0 H0 G1 : Hp} {W A : Res} {ρ : Ro} {D : Ends} {pos : Pos} {e o ie : Expr} {rest body : List Stmt} {st : Stmt}
theorem d_ownLL {i : Nat} {dss : List (List PyData)} (h : PS X st (tAsg (tNN W ρ dss) (gName i))) (k : ∀ p as, H0 p = none → G1 p = none → p ∉ as → as.Nodup → as.length = dss.length → (∀ a ∈ as, H0 a = none ∧ G1 a = none) → DSs X rest (At G0 H0 G1 (W.and (OwnLL p as dss)) (ρ.set i (some (.v (.ref p))))) D) : DSs X (st :: rest) (At G0 H0 G1 W ρ) D := by
  refine d_cons (M := fun σ H => ∃ p as, (H0 p = none ∧ G1 p = none ∧ p ∉ as ∧ as.Nodup ∧ as.length = dss.length ∧ ∀ a ∈ as, H0 a = none ∧ G1 a = none) ∧ At G0 H0 G1 (W.and (OwnLL p as dss)) (ρ.set i (some (.v (.ref p)))) σ H) ?_ (d_ex fun p => d_ex fun as => d_and fun h => k p as h.1 h.2.1 h.2.2.1 h.2.2.2.1 h.2.2.2.2.1 h.2.2.2.2.2)
  refine dst_of h fun σ H ⟨G, g, q, c⟩ => ⟨G, c, fun p as G' H' g' hp hg np nd hn hh hl => ⟨p, as, ⟨g.h.free hp, (q.trans g'.g).free hg, np, nd, hl.length, fun a ha => ⟨g.h.free (hn a ha), (q.trans g'.g).free (hl.mem ha).1⟩⟩, G', g.trans g', q.trans g'.g, g'.i, ⟨W.mono c.s g' c.w, hg, hh, hl⟩, (c.e.mono g'.g).set (s := .v (.ref p)) (v := .ref p) rfl i⟩⟩
/-- xs[i].append(e) -/
theorem d_appLL {A : Res} {p a : Addr} {as : List Addr} {i : Int} {j : Nat} {d : PyData} {ds : List PyData} {dss : List (List PyData)} {ap ip cp : Pos} (np : p ∉ as) (nd : as.Nodup) (hH : ∀ a ∈ as, H0 a = none) (hF : ∀ a ∈ as, Frm A a) (hj : atI as i = some a) (hj2 : as[j]? = some a) (hd : dss[j]? = some ds) (ho : DE X (A.and (OwnLL p as dss)) o ρ (.v (.ref p))) (hi : DE X (A.and (OwnLL p as dss)) ie ρ (En i)) (he : DE X (A.and (OwnLL p as dss)) e ρ (.d d)) (hz : ds.length < sizeLine)
    (k : DSs X rest (At G0 H0 G1 (A.and (OwnLL p as (dss.set j (ds ++ [d])))) ρ) D)
    (hst : starEach [e] X.env = (false, eval e X.env) :: starEach [] X.env := by rfl) (hs1 : PlainIx ie := by intro _ _; rfl)
    (hm : ∀ {ta te : TE}, PE X (.Subscript o ie ip) ta → PA X [e] (tCons te tNil) → PE X (.Call (.Attribute (.Subscript o ie ip) "append" ap) [e] [] cp) (tBM X.K "list" rAppend ta (tCons te tNil)) := by exact fun ho ha => pe_bm PySem.F.plainAttrs_list PySem.F.slot_list_append PySem.F.type_list_append mt_append ho ha)
    (hs : swapsWith (.Call (.Attribute (.Subscript o ie ip) "append" ap) [e] [] cp) none pos.line X.env = pure false := by rfl) : DSs X (.Expr (.Call (.Attribute (.Subscript o ie ip) "append" ap) [e] [] cp) pos :: rest) (At G0 H0 G1 (A.and (OwnLL p as dss)) ρ) D := by
  have hmem : a ∈ as := List.mem_of_getElem? hj2
  refine d_cons (dst_of (ps_expr (hm (de_ixO (as := as) ho hi (fun G H s h => h.2.2.1) hj hs1) (pa_cons he pa_nil hst)) hs) fun σ H ⟨G, g, q, c⟩ => ⟨G, c, fun x G2 H2 g2 r2 => ?_⟩) k
  have ex : x = .ref a := r2
  subst ex
  have c2 := c.step g2
  obtain ⟨hA, hg, hh, hl⟩ := c2.w
  obtain ⟨ds', vs, h1, h2, h3, h4⟩ := hl.get hj2
  refine ⟨.inl ⟨rfl, vs, .inl (.inl h3)⟩, G2, c2, fun y G3 H3 g3 r3 => ?_⟩
  have c3 := c2.step g3
  obtain ⟨hA3, hg3, hh3, hl3⟩ := c3.w
  obtain ⟨ds3, vs3, h13, h23, h33, h43⟩ := hl3.get hj2
  rw [hd] at h13
  cases h13
  refine ⟨a, vs3, y, rfl, rfl, h33, by rw [h43.length]; exact hz, G3, anchor_upd ((g.trans g2).trans g3) (hH a hmem) h23, (q.trans g2.g).trans g3.g, fun b o z => ?_, ⟨hF a hmem _ _ _ c3.s h23 hA3, hg3, ?_, hl3.set (h43.append (.cons r3 .nil)) nd hj2⟩, c3.e⟩
  · rw [upd_ne (ne_of_none z h23)]
    exact c3.s b o z
  · rw [upd_ne fun q => np (by rw [q]; exact hmem)]
    exact hh3
theorem lls_rp {G H : Hp} {as0 : List Addr} (hs : Same G H) : ∀ {as dss}, (∀ a ∈ as, a ∈ as0) → LLs G H as dss → RpAll (addT G H as0) (as.map V.ref) (dss.map PyData.list)
  | _, _, _, .nil => .nil
  | _, _, hm, .cons h1 h2 h3 t => .cons (.lst (.inl (by
      unfold addT
      rw [if_pos (hm _ List.mem_cons_self)]
      exact h2)) (rpAll_mono (fun b o e => by
      unfold addT
      by_cases hb : b ∈ as0
      · rw [if_pos hb]
        exact hs b o e
      · rw [if_neg hb]
        exact e) _ _ h3)) (lls_rp hs (fun a ha => hm a (List.mem_cons_of_mem _ ha)) t)
/-- all is complete: shared from now on -/
theorem d_frzLL {i : Nat} {p : Addr} {as : List Addr} {dss : List (List PyData)} (hr : ρ[i]? = some (some (.v (.ref p)))) (hH : H0 p = none) (hHa : ∀ a ∈ as, H0 a = none) (k : DSs X body (At G0 H0 G1 R0 (ρ.set i (some (.d (.list (dss.map PyData.list)))))) D) :
    DSs X body (At G0 H0 G1 (R0.and (OwnLL p as dss)) ρ) D := d_imp k fun σ H ⟨G, g, q, c⟩ => by
  obtain ⟨_, hg, hh, hl⟩ := c.w
  have s1 : Same G (addT G H (p :: as)) := fun b o e => by
    unfold addT
    by_cases hb : b ∈ p :: as
    · rw [if_pos hb]
      exact c.s b o e
    · rw [if_neg hb]
      exact e
  have s2 : Same (addT G H (p :: as)) H := fun b o e => by
    unfold addT at e
    by_cases hb : b ∈ p :: as
    · rw [if_pos hb] at e
      exact e
    · rw [if_neg hb] at e
      exact c.s b o e
  refine ⟨addT G H (p :: as), ⟨g.g.trans s1, g.h, s2, fun b o z n => ?_⟩, q.trans s1, s2, trivial, ?_⟩
  · unfold addT at z
    by_cases hb : b ∈ p :: as
    · rcases List.mem_cons.mp hb with y | y
      · rw [y]
        exact .inl hH
      · exact .inl (hHa b y)
    · rw [if_neg hb] at z
      exact g.n b o z n
  · obtain ⟨v, h1, h2⟩ := c.e.2 i _ hr
    have ev : v = .ref p := h2
    subst ev
    have rp : Rp (addT G H (p :: as)) (.ref p) (.list (dss.map PyData.list)) := .lst (.inl (by
      unfold addT
      rw [if_pos List.mem_cons_self]
      exact hh)) (lls_rp c.s (fun a ha => List.mem_cons_of_mem _ ha) hl)
    have e2 := (c.e.mono s1).set (j := i) (v := .ref p) (s := .d (.list (dss.map PyData.list))) rp
    refine ⟨by rw [e2.1, List.length_set], fun j t z => ?_⟩
    obtain ⟨v2, h3, h4⟩ := e2.2 j t z
    refine ⟨v2, ?_, h4⟩
    by_cases hj : i = j
    · subst hj
      rw [List.getElem?_set_self (List.getElem?_eq_some_iff.mp h1).1] at h3
      rw [h1]
      exact h3
    · rw [List.getElem?_set_ne hj] at h3
      exact h3
end
section
variable {X : Cx} {G0 H0 G1 : Hp} {W A : Res} {ρ : Ro} {D : Ends} {pos : Pos} {e o ie : Expr} {rest body : List Stmt} {st : Stmt}
/-- something known of where one stands -/
theorem d_fact {φ : Prop} (h : ∀ G H, Same G H → W.p G H → φ) (k : φ → DSs X body (At G0 H0 G1 W ρ) D) : DSs X body (At G0 H0 G1 W ρ) D := ⟨fun pins s σ H I ⟨G, g, q, c⟩ => (k (h G H c.s c.w)).run pins s σ H I ⟨G, g, q, c⟩⟩
theorem de_gint {x : Str} {i : Int} (hm : ∃ t, X.mg x = some (.int i t)) (hg : Gl X x := by rfl) (hd : (x == ("__debug__" : Str)) = false := by decide) : DE X W (.Name x pos) ρ (En i) := by
  obtain ⟨t, hm⟩ := hm
  exact pe_imp (pe_glob (v := .int i) hg hm ⟨t, rfl⟩ hd) fun σ H Q ⟨G, c, k⟩ => k _ G H (.refl c.s) (.int i)
theorem de_gstr {x z : Str} (hm : ∃ t, X.mg x = some (.str z t)) (hg : Gl X x := by rfl) (hd : (x == ("__debug__" : Str)) = false := by decide) : DE X W (.Name x pos) ρ (En z) := by
  obtain ⟨t, hm⟩ := hm
  exact pe_imp (pe_glob (v := .str z) hg hm ⟨t, rfl⟩ hd) fun σ H Q ⟨G, c, k⟩ => k _ G H (.refl c.s) (.str z)
end
theorem web_ne {C p : Addr} {s : WS} {G H : Hp} (h : (WebR C p s).p G H) : p ≠ s.d := fun e => by
  obtain ⟨⟨_, dx, gs, h1, _⟩, _, h2⟩ := h
  rw [e, h2] at h1
  cases h1
theorem frm_ins {C p q : Addr} {fs : List (Str × Sl)} (h : p ≠ q) : Frm (InsD C p fs) q := frm_frc (frc_ins fun z => h (List.mem_singleton.mp z))
theorem frm_dic {d q : Addr} {ps : List (Int × Int)} (h : d ≠ q) : Frm (DicR d ps) q := frm_frc (frc_dic fun z => h (List.mem_singleton.mp z))
/-! the generator's small rules -/
def Frz (A : Res) (p : Addr) : Prop := ∀ (G H : Hp) o, Same G H → H p = some o → G p = none → A.p G H → A.p (upd G p o) H
theorem frz_and {A B : Res} {p : Addr} (h1 : Frz A p) (h2 : Frz B p) : Frz (A.and B) p := fun G H o s h g a => ⟨h1 G H o s h g a.1, h2 G H o s h g a.2⟩
theorem frz_own {q p : Addr} {ds : List PyData} (h : q ≠ p) : Frz (Own q ds) p := fun G H o s hp g ⟨h1, xs, h2, h3⟩ => ⟨by rw [upd_ne h]; exact h1, xs, h2, rpAll_mono (same_upd g) _ _ h3⟩
theorem frz_Web {C q p : Addr} {s : WS} (h1 : q ≠ p) (h2 : s.d ≠ p) : Frz (WebR C q s) p := fun G H o hs hp g ⟨⟨a1, dx, gs, a2, a3⟩, b1, b2⟩ => ⟨⟨by rw [upd_ne h1]; exact a1, dx, gs, a2, a3.mono (same_upd g)⟩, by rw [upd_ne h2]; exact b1, b2⟩
theorem frm_Web {C q p : Addr} {s : WS} (h1 : q ≠ p) (h2 : s.d ≠ p) : Frm (WebR C q s) p := frm_and (frm_ins h1) (frm_dic h2)
theorem At.res {G0 H0 G1 : Hp} {W W' : Res} {ρ : Ro} {σ : L2.St} {H : Hp} (w : ∀ G H, Same G H → W.p G H → W'.p G H) (h : At G0 H0 G1 W ρ σ H) : At G0 H0 G1 W' ρ σ H := by
  obtain ⟨G, g, q, c⟩ := h
  exact ⟨G, g, q, c.s, w G H c.s c.w, c.e⟩
theorem findSome_hit {α β : Type} {f : α → Option β} {v : β} {pre post : List α} {x : α} (h : ∀ y ∈ pre, f y = none) (e : f x = some v) : List.findSome? f (pre ++ x :: post) = some v := by
  induction pre with
  | nil => simp [List.findSome?_cons, e]
  | cons y ys ih =>
    rw [List.cons_append, List.findSome?_cons, h y List.mem_cons_self]
    exact ih fun z hz => h z (List.mem_cons_of_mem _ hz)
theorem findSome_miss {α β : Type} {f : α → Option β} {xs : List α} (h : ∀ y ∈ xs, f y = none) : List.findSome? f xs = none := List.findSome?_eq_none_iff.mpr h
theorem snoc_none {α β : Type} {f : α → Option β} {xs : List α} {x : α} (h : ∀ y ∈ xs, f y = none) (e : f x = none) : ∀ y ∈ xs ++ [x], f y = none := fun y hy => by
  rcases List.mem_append.mp hy with q | q
  · exact h y q
  · rw [List.mem_singleton.mp q]
    exact e
end DL

/-! DL13: what the head tells, without the lists; the law's script. -/
namespace DL
open PySem PySem.Spec L2
open PyProof.Rows hiding St
open PySem.W (Datum DatumOrd Tup T3 Holds HoldAll EachIs)
def isL (o : Obj) : Bool := match o.cls with
  | .type c => decide (c = "list")
  | _ => false
def frL (g : Addr → Option Obj) (as : List Addr) : PySem.W.Frag := (He.frG g as).filter fun q => !isL q.2
theorem look_in {a : Addr} {o : Obj} : ∀ {l : List (Addr × Obj)}, l.lookup a = some o → (a, o) ∈ l
  | [], h => by cases h
  | (b, u) :: r, h => by
    rw [List.lookup_cons] at h
    cases q : a == b with
    | true =>
      rw [q] at h
      cases h
      rw [eq_of_beq q]
      exact List.mem_cons_self
    | false =>
      rw [q] at h
      exact List.mem_cons_of_mem _ (look_in h)
theorem frL_look {g : Addr → Option Obj} {as : List Addr} {a : Addr} {o : Obj} (h : (frL g as).lookup a = some o) : g a = some o ∧ isL o = false := by
  obtain ⟨h1, h2⟩ := List.mem_filter.mp (look_in h)
  refine ⟨?_, by simpa using h2⟩
  unfold He.frG at h1
  obtain ⟨b, _, e⟩ := List.mem_filterMap.mp h1
  cases q : g b with
  | none =>
    rw [q] at e
    cases e
  | some u =>
    rw [q] at e
    cases e
    exact q
def NoList (K : PySem.W.Frag) : Prop := ∀ a o, K.lookup a = some o → isL o = false
def obsL (n : Nat) (fa : List He.Fa) (fn : List He.DefD) (g : Addr → Option Obj) : He.AlD := He.obsD fa fn (frL g (He.asD g n))
def hookL (n : Nat) (fa : List He.Fa) (fn : List He.DefD) : PySem.W.Hook where
  α := He.AlD
  obs := fun s => obsL n fa fn s.heap.get?
  val := fun _ => He.valD fn
  says := fun _ h => ∃ K : PySem.W.Frag, K.In h ∧ He.SaysD fa fn K ∧ NoList K
  of := fun _ _ e => ⟨_, fun _ _ q => (frL_look q).1, e, fun _ _ q => (frL_look q).2⟩
  keeps := fun _ _ _ ⟨K, hK, c, l⟩ k => ⟨K, PySem.W.Frag.In.keeps hK k, c, l⟩
theorem obsL_eq {n : Nat} {fa : List He.Fa} {fn : List He.DefD} {g : Addr → Option Obj} {s : Shared} (h : ∀ a, g a = s.heap.get? a) : obsL n fa fn g = (hookL n fa fn).obs s := by
  rw [show g = s.heap.get? from funext h]
  rfl
theorem sq_rd {K : PySem.W.Frag} {H : Hp} {a : Addr} {xs : List V} (l : NoList K) (h : SqL K H a xs) : Rd H a (.lst xs) := by
  rcases h with h | ⟨o, its, n, h1, h2, _⟩
  · exact h
  · exfalso
    have q := l a o h1
    unfold isL at q
    rw [h2] at q
    simp at q
theorem rp_intsH (H : Hp) : ∀ ns : List Int, RpAll H (ns.map V.int) (ns.map Datum.toD)
  | [] => .nil
  | x :: xs => .cons (.int x) (rp_intsH H xs)
/-- a list of whole numbers that is given, as data -/
theorem law_in {pre : List Int → Prop} {f : List Int → Bool} {K : PySem.W.Frag} {H : Hp} {a : Addr} {ns : List Int} (l : NoList K) (hS : SqL K H a (ns.map V.int)) (hp : pre ns) (he : f ns = true) : SpD (R1 pre f) [.ref a] H (fun v _ => v = .bl true) fun _ _ _ => False := by
  refine ⟨H, [En ns], R0, En (f ns), Same.refl _, trivial, .cons ?_ .nil, ⟨ns, rfl, hp, rfl⟩, fun v G' H' _ r => ?_⟩
  · exact Rp.lst (sq_rd l hS) (rp_intsH H ns)
  · rw [he] at r
    cases r
    rfl
end DL

/-! DL14: lists lent, any receiver, remove, extend, None, while. -/
namespace DL
open PySem PySem.Spec L2
open PyProof.Rows hiding St
open PySem.W (Datum DatumOrd Tup T3 Holds HoldAll EachIs SomeDatum)
/-! data without lists -/
mutual
def nol : PyData → Bool
  | .list _ => false
  | .dict _ => false
  | .tuple ds => nolAll ds
  | _ => true
def nolAll : List PyData → Bool
  | [] => true
  | d :: ds => nol d && nolAll ds
end
mutual
theorem rp_cut {G : Hp} {p : Addr} {zs : List V} (hp : G p = some (.lst zs)) : ∀ (d : PyData) (v : V), nol d = true → Rp G v d → Rp (cut [p] G) v d
  | .none, _, _, h => by cases h; exact .non
  | .bool b, _, _, h => by cases h; exact .bl b
  | .int i, _, _, h => by cases h; exact .int i
  | .str x, _, _, h => by cases h; exact .str x
  | .list ds, _, n, _ => by simp [nol] at n
  | .dict _, _, n, _ => by simp [nol] at n
  | .tuple ds, _, n, h => by
    cases h with
    | tup h1 h2 =>
      refine .tup ?_ (rpAll_cut hp ds _ (by simpa [nol] using n) h2)
      rw [cut_ne fun q => by rw [List.mem_singleton.mp q, hp] at h1; cases h1]
      exact h1
theorem rpAll_cut {G : Hp} {p : Addr} {zs : List V} (hp : G p = some (.lst zs)) : ∀ (ds : List PyData) (vs : List V), nolAll ds = true → RpAll G vs ds → RpAll (cut [p] G) vs ds
  | [], _, _, h => by cases h; exact .nil
  | d :: ds, _, n, h => by
    have n' : nol d = true ∧ nolAll ds = true := by simpa [nolAll] using n
    cases h with
    | cons h1 h2 => exact .cons (rp_cut hp d _ n'.1 h1) (rpAll_cut hp ds _ n'.2 h2)
end
class Flat (α : Type) [DecidableEq α] [Datum α] : Prop where
  nol : ∀ a : α, nol (Datum.toD a) = true
instance : Flat Int := ⟨fun _ => by show nol (.int _) = true; simp [nol]⟩
instance : Flat Bool := ⟨fun _ => by show nol (.bool _) = true; simp [nol]⟩
instance : Flat Str := ⟨fun _ => by show nol (.str _) = true; simp [nol]⟩
section
variable {α β γ : Type} [DecidableEq α] [Datum α] [Flat α] [DecidableEq β] [Datum β] [Flat β] [DecidableEq γ] [Datum γ] [Flat γ]
instance : Flat (α × β) := ⟨fun p => by
  show nol (.tuple [Datum.toD p.1, Datum.toD p.2]) = true
  simp [nol, nolAll, Flat.nol]⟩
instance : Flat (T3 α β γ) := ⟨fun p => by
  show nol (.tuple [Datum.toD p.a, Datum.toD p.b, Datum.toD p.c]) = true
  simp [nol, nolAll, Flat.nol]⟩
instance : Flat (Tup α) := ⟨fun p => by
  show nol (.tuple (p.items.map Datum.toD)) = true
  simp only [nol]
  induction p.items with
  | nil => rfl
  | cons x xs ih => simp only [List.map_cons, nolAll, Flat.nol, ih, Bool.and_self]⟩
instance [SomeDatum α] : Flat (Option α) := ⟨fun p => by
  cases p with
  | none => show nol .none = true; simp [nol]
  | some a => exact Flat.nol a⟩
end
/-- a list of one's own, lent -/
def Lent (p : Addr) (ds : List PyData) : Res := ⟨fun G H => ∃ xs, G p = some (.lst xs) ∧ RpAll G xs ds, fun s g ⟨xs, h1, h2⟩ => ⟨xs, g.g p _ h1, rpAll_mono g.g _ _ h2⟩⟩
section
variable {X : Cx} {A W : Res} {ρ : Ro} {pos : Pos} {e a b c : Expr} {p : Addr} {ds : List PyData} {d : PyData} {k : Bool}
theorem lend_gw {G H G' H' : Hp} {xs : List V} (hg : G p = none) (hh : H p = some (.lst xs)) (g : Gw (upd G p (.lst xs)) H G' H') : Gw G H (cut [p] G') H' := by
  have hp : G' p = some (.lst xs) := g.g p _ upd_same
  refine ⟨fun b o e => ?_, g.h, fun b o e => g.i b o (cut_some e).2, fun b o e n => ?_⟩
  · have nb : b ≠ p := ne_of_none e hg
    rw [cut_ne fun q => nb (List.mem_singleton.mp q)]
    exact g.g b o (by rw [upd_ne nb]; exact e)
  · obtain ⟨h1, h2⟩ := cut_some e
    exact g.n b o h2 (by rw [upd_ne fun q => h1 (List.mem_singleton.mpr q)]; exact n)
theorem lend_s {G H : Hp} {xs : List V} (s : Same G H) (hh : H p = some (.lst xs)) : Same (upd G p (.lst xs)) H := fun b o e => by
  by_cases hb : b = p
  · rw [hb, upd_same] at e
    rw [hb, hh]
    exact e
  · rw [upd_ne hb] at e
    exact s b o e
theorem de_lend (hd : nol d = true) (hF : Frz A p) (h : DE X (A.and (Lent p ds)) e ρ (.d d)) : DE X (A.and (Own p ds)) e ρ (.d d) :=
  pe_imp h fun σ H Q ⟨G, c, k⟩ => by
    obtain ⟨hA, hg, xs, hh, hx⟩ := c.w
    refine ⟨upd G p (.lst xs), ⟨lend_s c.s hh, ⟨hF G H _ c.s hh hg hA, xs, upd_same, rpAll_mono (same_upd hg) _ _ hx⟩, c.e.mono (same_upd hg)⟩, fun v G' H' g r => k v (cut [p] G') H' (lend_gw hg hh g) (rp_cut (g.g p _ upd_same) d v hd r)⟩
theorem dt_lend (hF : Frz A p) (h : DT X (A.and (Lent p ds)) e ρ k) : DT X (A.and (Own p ds)) e ρ k :=
  pt_imp h fun σ H Q ⟨G, c, k⟩ => by
    obtain ⟨hA, hg, xs, hh, hx⟩ := c.w
    refine ⟨upd G p (.lst xs), ⟨lend_s c.s hh, ⟨hF G H _ c.s hh hg hA, xs, upd_same, rpAll_mono (same_upd hg) _ _ hx⟩, c.e.mono (same_upd hg)⟩, fun G' H' g => k (cut [p] G') H' (lend_gw hg hh g)⟩
theorem te_lend {α : Type} [DecidableEq α] [Datum α] [Flat α] {y : α} (hF : Frz A p) (h : DE X (A.and (Lent p ds)) e ρ (En y)) : DE X (A.and (Own p ds)) e ρ (En y) := de_lend (Flat.nol y) hF h
/-- the lent list, as data -/
theorem de_lent (h : DE X W e ρ (.v (.ref p))) (hW : ∀ G H, Same G H → W.p G H → (Lent p ds).p G H) : DE X W e ρ (.d (.list ds)) :=
  pe_imp h fun σ H Q ⟨G, c, k⟩ => ⟨G, c, fun v G' H' g r => by
    have ev : v = .ref p := r
    subst ev
    obtain ⟨xs, h1, h2⟩ := hW G' H' g.i (c.step g).w
    exact k _ G' H' g (.lst (.inl h1) h2)⟩
/-- the own list at o, as a list that is read -/
theorem ds_ownR (h : DE X W e ρ (.v (.ref p))) (hW : ∀ G H, Same G H → W.p G H → (Own p ds).p G H) : DS X W e ρ ds :=
  pe_imp h fun σ H Q ⟨G, c, k⟩ => ⟨G, c, fun v G' H' g r => by
    have ev : v = .ref p := r
    subst ev
    obtain ⟨_, xs, h1, h2⟩ := hW G' H' g.i (c.step g).w
    exact k p xs G' H' g (.inl h1) h2⟩
/-! None -/
theorem rp_isN {α : Type} [DecidableEq α] [Datum α] [SomeDatum α] {G : Hp} {v : V} {x : Option α} (h : RepS G v (En x)) : decide (v = .non) = x.isNone := by
  cases x with
  | none =>
    have h' : Rp G v .none := h
    cases h'
    rfl
  | some a =>
    have h' : Rp G v (Datum.toD a) := h
    have ne : Datum.toD a ≠ .none := fun q => by
      have e := SomeDatum.left a
      rw [q] at e
      simp only [PyData.eqv] at e
      cases e
    rw [decide_eq_false]
    · rfl
    · intro q
      subst q
      generalize Datum.toD a = d at h' ne
      cases h'
      exact ne rfl
variable {α : Type} [DecidableEq α] [Datum α] [SomeDatum α] {x : Option α}
theorem de_isN {j : Nat} {p2 : Pos} (ha : DE X W a ρ (En x)) (h1 : behindInMarks .Is (.Constant .none j p2) = false := by rfl) : DE X W (.Compare a [.Is] [.Constant .none j p2] pos) ρ (En x.isNone) :=
  pe_imp (pe_cmp (pc_isN ha) h1) fun σ H Q ⟨G, c, k⟩ => ⟨G, c, fun v G' H' g r => by
    have e := rp_isN r
    simp only [e]
    exact k _ G' H' g (.bl _)⟩
theorem de_notN {j : Nat} {p2 : Pos} (ha : DE X W a ρ (En x)) (h1 : behindInMarks .IsNot (.Constant .none j p2) = false := by rfl) : DE X W (.Compare a [.IsNot] [.Constant .none j p2] pos) ρ (En (!x.isNone)) :=
  pe_imp (pe_cmp (pc_notN ha) h1) fun σ H Q ⟨G, c, k⟩ => ⟨G, c, fun v G' H' g r => by
    have e := rp_isN r
    simp only [e]
    exact k _ G' H' g (.bl _)⟩
theorem dt_isN {j : Nat} {p2 : Pos} (ha : DE X W a ρ (En x)) (h1 : behindInMarks .Is (.Constant .none j p2) = false := by rfl) : DT X W (.Compare a [.Is] [.Constant .none j p2] pos) ρ x.isNone :=
  pt_imp (pt_cmp (pc_isN ha) h1) fun σ H Q ⟨G, c, k⟩ => ⟨G, c, fun v G' H' g r => ⟨_, rfl, by
    have e := rp_isN r
    simp only [e]
    exact k G' H' g⟩⟩
theorem dt_notN {j : Nat} {p2 : Pos} (ha : DE X W a ρ (En x)) (h1 : behindInMarks .IsNot (.Constant .none j p2) = false := by rfl) : DT X W (.Compare a [.IsNot] [.Constant .none j p2] pos) ρ (!x.isNone) :=
  pt_imp (pt_cmp (pc_notN ha) h1) fun σ H Q ⟨G, c, k⟩ => ⟨G, c, fun v G' H' g r => ⟨_, rfl, by
    have e := rp_isN r
    simp only [e]
    exact k G' H' g⟩⟩
end
/-! changes of own lists, any receiver -/
section
variable {X : Cx} {G0 H0 G1 : Hp} {W A : Res} {ρ : Ro} {D : Ends} {pos cp ap : Pos} {e o : Expr} {rest : List Stmt} {p : Addr}
theorem d_appR {α : Type} [DecidableEq α] [Datum α] {y : α} {ys : List α} (hH : H0 p = none) (hF : Frm A p) (ho : DE X (A.and (Own p (ys.map Datum.toD))) o ρ (.v (.ref p))) (he : DE X (A.and (Own p (ys.map Datum.toD))) e ρ (En y)) (hz : ys.length < 1000000)
    (k : DSs X rest (At G0 H0 G1 (A.and (Own p ((ys ++ [y]).map Datum.toD))) ρ) D) (hst : starEach [e] X.env = (false, eval e X.env) :: starEach [] X.env := by rfl)
    (hm : ∀ {ta te : TE}, PE X o ta → PA X [e] (tCons te tNil) → PE X (.Call (.Attribute o "append" ap) [e] [] cp) (tBM X.K "list" rAppend ta (tCons te tNil)) := by exact fun ho ha => pe_bm PySem.F.plainAttrs_list PySem.F.slot_list_append PySem.F.type_list_append mt_append ho ha)
    (hs : swapsWith (.Call (.Attribute o "append" ap) [e] [] cp) none pos.line X.env = pure false := by rfl) : DSs X (.Expr (.Call (.Attribute o "append" ap) [e] [] cp) pos :: rest) (At G0 H0 G1 (A.and (Own p (ys.map Datum.toD))) ρ) D := by
  refine d_cons (dst_of (ps_expr (hm ho (pa_cons he pa_nil hst)) hs) fun σ H ⟨G, g, q, c⟩ => ⟨G, c, fun x G2 H2 g2 r2 => ?_⟩) k
  have ex : x = .ref p := r2
  subst ex
  have c2 := c.step g2
  obtain ⟨hA, hg, xs, hh, hx⟩ := c2.w
  refine ⟨.inl ⟨rfl, xs, .inl (.inl hh)⟩, G2, c2, fun y' G3 H3 g3 r3 => ?_⟩
  have c3 := c2.step g3
  obtain ⟨hA3, hg3, xs3, hh3, hx3⟩ := c3.w
  refine ⟨p, xs3, y', rfl, rfl, hh3, by rw [hx3.length, List.length_map, sizeLine_eq]; omega, G3, anchor_upd ((g.trans g2).trans g3) hH hg3, (q.trans g2.g).trans g3.g, fun b o z => ?_, ⟨hF _ _ _ c3.s hg3 hA3, hg3, _, upd_same, ?_⟩, c3.e⟩
  · rw [upd_ne (ne_of_none z hg3)]
    exact c3.s b o z
  · rw [List.map_append]
    exact hx3.append (.cons r3 .nil)
theorem erase_at {ns : List Int} {j : Nat} {k : Int} (h : ns[j]? = some k) (hn : ∀ m : Nat, m < j → ns[m]? ≠ some k) : ns.eraseIdx j = ns.erase k := by
  induction ns generalizing j with
  | nil => simp at h
  | cons a r ih =>
    cases j with
    | zero =>
      simp at h
      rw [h, List.erase_cons_head]
      rfl
    | succ j =>
      have h0 := hn 0 (Nat.succ_pos _)
      simp at h0 h
      rw [List.erase_cons_tail (by rw [beq_iff_eq]; exact h0), List.eraseIdx_cons_succ, ih h fun m hm => by
        have := hn (m + 1) (Nat.succ_lt_succ hm)
        simpa using this]
theorem first_of {ns : List Int} {k : Int} (h : k ∈ ns) : ∃ j : Nat, ns[j]? = some k ∧ ∀ m : Nat, m < j → ns[m]? ≠ some k := by
  induction ns with
  | nil => cases h
  | cons a r ih =>
    by_cases e : a = k
    · exact ⟨0, by rw [e]; rfl, fun m hm => absurd hm (Nat.not_lt_zero _)⟩
    · obtain ⟨j, h1, h2⟩ := ih ((List.mem_cons.mp h).resolve_left fun q => e q.symm)
      refine ⟨j + 1, h1, fun m hm => ?_⟩
      cases m with
      | zero => simpa using e
      | succ m =>
        rw [List.getElem?_cons_succ]
        exact h2 m (Nat.lt_of_succ_lt_succ hm)
/-- xs.remove(k), there -/
theorem d_remR {y : Int} {ys : List Int} (hH : H0 p = none) (hF : Frm A p) (ho : DE X (A.and (Own p (ys.map Datum.toD))) o ρ (.v (.ref p))) (he : DE X (A.and (Own p (ys.map Datum.toD))) e ρ (En y)) (hy : y ∈ ys)
    (k : DSs X rest (At G0 H0 G1 (A.and (Own p ((ys.erase y).map Datum.toD))) ρ) D) (hst : starEach [e] X.env = (false, eval e X.env) :: starEach [] X.env := by rfl)
    (hm : ∀ {ta te : TE}, PE X o ta → PA X [e] (tCons te tNil) → PE X (.Call (.Attribute o "remove" ap) [e] [] cp) (tBM X.K "list" rRemI ta (tCons te tNil)) := by exact fun ho ha => pe_bm PySem.F.plainAttrs_list PySem.F.slot_list_remove PySem.F.type_list_remove mt_remove ho ha)
    (hs : swapsWith (.Call (.Attribute o "remove" ap) [e] [] cp) none pos.line X.env = pure false := by rfl) : DSs X (.Expr (.Call (.Attribute o "remove" ap) [e] [] cp) pos :: rest) (At G0 H0 G1 (A.and (Own p (ys.map Datum.toD))) ρ) D := by
  obtain ⟨j, j1, j2⟩ := first_of hy
  refine d_cons (dst_of (ps_expr (hm ho (pa_cons he pa_nil hst)) hs) fun σ H ⟨G, g, q, c⟩ => ⟨G, c, fun x G2 H2 g2 r2 => ?_⟩) k
  have ex : x = .ref p := r2
  subst ex
  have c2 := c.step g2
  obtain ⟨hA, hg, xs, hh, hx⟩ := c2.w
  refine ⟨.inl ⟨rfl, xs, .inl (.inl hh)⟩, G2, c2, fun y' G3 H3 g3 r3 => ?_⟩
  have c3 := c2.step g3
  obtain ⟨hA3, hg3, xs3, hh3, hx3⟩ := c3.w
  cases r3
  have e3 : xs3 = ys.map V.int := rp_ints hx3
  subst e3
  refine ⟨p, ys, y, j, rfl, rfl, hh3, j1, j2, G3, anchor_upd ((g.trans g2).trans g3) hH hg3, (q.trans g2.g).trans g3.g, fun b o z => ?_, ⟨hF _ _ _ c3.s hg3 hA3, hg3, _, upd_same, ?_⟩, c3.e⟩
  · rw [upd_ne (ne_of_none z hg3)]
    exact c3.s b o z
  · rw [erase_at j1 j2]
    exact RpAll.ints _
/-- xs.extend(a new list) -/
theorem d_extR {α : Type} [DecidableEq α] [Datum α] {zs ys : List α} (hH : H0 p = none) (hF : Frm A p) (ho : DE X (A.and (Own p (ys.map Datum.toD))) o ρ (.v (.ref p))) (he : TN X (A.and (Own p (ys.map Datum.toD))) e ρ zs) (hz : ys.length + zs.length < 1000000)
    (k : DSs X rest (At G0 H0 G1 (A.and (Own p ((ys ++ zs).map Datum.toD))) ρ) D) (hst : starEach [e] X.env = (false, eval e X.env) :: starEach [] X.env := by rfl)
    (hm : ∀ {ta te : TE}, PE X o ta → PA X [e] (tCons te tNil) → PE X (.Call (.Attribute o "extend" ap) [e] [] cp) (tBM X.K "list" rExtend ta (tCons te tNil)) := by exact fun ho ha => pe_bm PySem.F.plainAttrs_list PySem.F.slot_list_extend PySem.F.type_list_extend mt_extend ho ha)
    (hs : swapsWith (.Call (.Attribute o "extend" ap) [e] [] cp) none pos.line X.env = pure false := by rfl) : DSs X (.Expr (.Call (.Attribute o "extend" ap) [e] [] cp) pos :: rest) (At G0 H0 G1 (A.and (Own p (ys.map Datum.toD))) ρ) D := by
  refine d_cons (dst_of (ps_expr (hm ho (pa_cons he pa_nil hst)) hs) fun σ H ⟨G, g, q, c⟩ => ⟨G, c, fun x G2 H2 g2 r2 => ?_⟩) k
  have ex : x = .ref p := r2
  subst ex
  have c2 := c.step g2
  obtain ⟨hA, hg, xs, hh, hx⟩ := c2.w
  refine ⟨.inl ⟨rfl, xs, .inl (.inl hh)⟩, G2, c2, fun b ws G3 H3 g3 hb gb hbl hr3 => ?_⟩
  have c3 := c2.step g3
  obtain ⟨hA3, hg3, xs3, hh3, hx3⟩ := c3.w
  refine ⟨p, b, xs3, ws, rfl, rfl, hh3, hbl, by rw [hx3.length, hr3.length, List.length_map, List.length_map, sizeLine_eq]; omega, G3, anchor_upd ((g.trans g2).trans g3) hH hg3, (q.trans g2.g).trans g3.g, fun b o z => ?_, ⟨hF _ _ _ c3.s hg3 hA3, hg3, _, upd_same, ?_⟩, c3.e⟩
  · rw [upd_ne (ne_of_none z hg3)]
    exact c3.s b o z
  · rw [List.map_append]
    exact hx3.append hr3
end
/-! while -/
def iterW {β : Type} (c : β → Bool) (f : β → β) : Nat → β → β
  | 0, b => b
  | n + 1, b => bif c b then iterW c f n (f b) else b
theorem iterW_stop {β : Type} {c : β → Bool} {f : β → β} {n : Nat} {b : β} (h : c b = false) : iterW c f n b = b := by
  cases n with
  | zero => rfl
  | succ n => rw [iterW, h]; rfl
theorem iterW_fuel {β : Type} {c : β → Bool} {f : β → β} {Iv : β → Prop} {m : β → Nat} (hI : ∀ b, Iv b → c b = true → Iv (f b)) (hm : ∀ b, Iv b → c b = true → m (f b) < m b) : ∀ (n : Nat) (b : β), Iv b → m b ≤ n → iterW c f n b = iterW c f (m b) b
  | 0, b, _, h => by rw [Nat.le_zero.mp h]
  | n + 1, b, i, h => by
    cases q : c b with
    | false => rw [iterW_stop q, iterW_stop q]
    | true =>
      have h1 := hm b i q
      obtain ⟨k, hk⟩ : ∃ k, m b = k + 1 := ⟨m b - 1, by omega⟩
      rw [hk, iterW, iterW, q, cond_true, cond_true, iterW_fuel hI hm n (f b) (hI b i q) (by omega), iterW_fuel hI hm k (f b) (hI b i q) (by omega)]
theorem iterW_step {β : Type} {c : β → Bool} {f : β → β} {Iv : β → Prop} {m : β → Nat} (hI : ∀ b, Iv b → c b = true → Iv (f b)) (hm : ∀ b, Iv b → c b = true → m (f b) < m b) {b : β} (i : Iv b) (q : c b = true) : iterW c f (m b) b = iterW c f (m (f b)) (f b) := by
  have h1 := hm b i q
  obtain ⟨k, hk⟩ : ∃ k, m b = k + 1 := ⟨m b - 1, by omega⟩
  rw [hk, iterW, q, cond_true, iterW_fuel hI hm k (f b) (hI b i q) (by omega)]
section
variable {X : Cx} {G0 H0 G1 : Hp} {W A : Res} {ρ : Ro} {D : Ends} {pos : Pos} {c : Expr} {rest body : List Stmt}
theorem d_iter {β : Type} (Iv : β → Prop) (W' : β → Res) (ρ' : β → Ro) (cond : β → Bool) (f : β → β) (m : β → Nat) (b0 : β) (hp : PassesOwn (model X.prog X.w) X.A X.env X.xe) (h0 : ∀ G H σ, Cxt W ρ G σ H → Cxt (W' b0) (ρ' b0) G σ H) (hI0 : Iv b0)
    (hI : ∀ b, Iv b → cond b = true → Iv (f b)) (hm : ∀ b, Iv b → cond b = true → m (f b) < m b) (hc : ∀ b, Iv b → DT X (W' b) c (ρ' b) (cond b))
    (turn : ∀ (bk : L2.St → Hp → Prop) b, Iv b → cond b = true → DSs X body (At G0 H0 G1 (W' b) (ρ' b)) { D with nx := At G0 H0 G1 (W' (f b)) (ρ' (f b)), ct := At G0 H0 G1 (W' (f b)) (ρ' (f b)), bk := bk })
    (after : ∀ b, b = iterW cond f (m b0) b0 → Iv b → cond b = false → DSs X rest (At G0 H0 G1 (W' b) (ρ' b)) D) : DSs X (.While c body [] pos :: rest) (At G0 H0 G1 W ρ) D := by
  refine d_while (fun b => Iv b ∧ iterW cond f (m b0) b0 = iterW cond f (m b) b) W' ρ' cond m b0 hp h0 ⟨hI0, rfl⟩ (fun b hb => hc b hb.1) (fun bk b hb hk => ?_) (fun b hb hk => after b (by rw [hb.2, iterW_stop hk]) hb.1 hk)
  have key : ∀ σ H, At G0 H0 G1 (W' (f b)) (ρ' (f b)) σ H → ∃ b', ((Iv b' ∧ iterW cond f (m b0) b0 = iterW cond f (m b') b') ∧ m b' < m b) ∧ At G0 H0 G1 (W' b') (ρ' b') σ H := fun σ H h =>
    ⟨f b, ⟨⟨hI b hb.1 hk, by rw [hb.2, iterW_step hI hm hb.1 hk]⟩, hm b hb.1 hk⟩, h⟩
  refine ⟨fun pins s σ H I p => ?_⟩
  refine thn ((turn bk b hb.1 hk).run pins s σ H I p) fun fl s1 q => ?_
  cases fl with
  | next =>
    obtain ⟨σ', H', I', q⟩ := q
    exact ⟨σ', H', I', key _ _ q⟩
  | cont =>
    obtain ⟨σ', H', I', q⟩ := q
    exact ⟨σ', H', I', key _ _ q⟩
  | brk => exact q
  | ret v => exact q
end
end DL

/-! DL15: least, greatest; attributes that are lists; a folded web. -/
namespace DL
open PySem PySem.Spec L2
open PyProof.Rows hiding St
open PySem.W (Datum DatumOrd Tup T3 Holds HoldAll EachIs SomeDatum)
section
variable {X : Cx} {G0 H0 G1 : Hp} {W A : Res} {ρ : Ro} {D : Ends} {pos pos' fp : Pos} {o val : Expr} {rest body : List Stmt} {C p : Addr} {fs : List (Str × Sl)} {f : Str} {s : Sl}
/-- o.f = a new list, one's own -/
theorem d_attN {ds : List PyData} (cl : Cls X.K C) (nf : NoAttr X.K C f) (hF : Frm A p) (h0 : H0 p = none) (ho : DE X (A.and (InsD C p fs)) o ρ (.v (.ref p))) (hv : DN X (A.and (InsD C p fs)) val ρ ds)
    (k : ∀ a, H0 a = none → G1 a = none → a ≠ p → (∀ q : Addr, (∀ G H, Same G H → A.p G H → ∃ o, H q = some o) → q ≠ a) → DSs X rest (At G0 H0 G1 ((A.and (InsD C p (putS f (.v (.ref a)) fs))).and (Own a ds)) ρ) D) (hl : fs.length < 1000 := by decide) (hs : swapsWith val (some (.Attribute o f pos')) pos.line X.env = pure false := by rfl) : DSs X (.Assign [.Attribute o f pos'] val pos :: rest) (At G0 H0 G1 (A.and (InsD C p fs)) ρ) D := by
  refine d_cons (M := fun σ H => ∃ a, (H0 a = none ∧ G1 a = none ∧ a ≠ p ∧ ∀ q : Addr, (∀ G H, Same G H → A.p G H → ∃ o, H q = some o) → q ≠ a) ∧ At G0 H0 G1 ((A.and (InsD C p (putS f (.v (.ref a)) fs))).and (Own a ds)) ρ σ H) ?_ (d_ex fun a => d_and fun h => k a h.1 h.2.1 h.2.2.1 h.2.2.2)
  refine dst_of (ps_fld ho hv hs) fun σ H ⟨G, g, q0, c⟩ => ⟨G, c, fun a xs G2 H2 g2 ha ga hal hx => ⟨G2, c.step g2, fun x G3 H3 g3 r3 => ?_⟩⟩
  have ex : x = .ref p := r3
  subst ex
  have c3 := (c.step g2).step g3
  obtain ⟨hA, hg, dx, gs, hH, hfs⟩ := c3.w
  have nap : a ≠ p := fun e => by
    obtain ⟨_, _, dx0, gs0, hp0, _⟩ := c.w
    rw [e, hp0] at ha
    cases ha
  have ga3 : G3 a = none := g3.nosh hal (fun _ z => nomatch z) ga
  refine ⟨p, C, dx, gs, rfl, hH, cl, nf, by rw [hfs.length]; exact hl, a, ⟨g.h.free ha, (q0.trans g2.g).free ga, nap, fun q hq e => ?_⟩, G3, anchor_upd ((g.trans g2).trans g3) h0 hg, (q0.trans g2.g).trans g3.g, fun b o z => ?_, ⟨⟨hF _ _ _ c3.s hg hA, hg, dx, _, upd_same, hfs.put (v := .ref a) (s := .v (.ref a)) (show V.ref a = V.ref a from rfl)⟩, ga3, xs, ?_, rpAll_mono g3.g _ _ hx⟩, c3.e⟩
  · obtain ⟨u, hu⟩ := hq G H c.s c.w.1
    rw [e, ha] at hu
    cases hu
  · rw [upd_ne (ne_of_none z hg)]
    exact c3.s b o z
  · rw [upd_ne nap]
    exact g3.h a _ hal
/-- an own list is shared from now on -/
theorem d_share {ds : List PyData} (hH : H0 p = none) (hF : Frz A p) (k : DSs X body (At G0 H0 G1 (A.and (Lent p ds)) ρ) D) : DSs X body (At G0 H0 G1 (A.and (Own p ds)) ρ) D := d_imp k fun σ H ⟨G, g, q, c⟩ => by
  obtain ⟨hA, hg, xs, hh, hx⟩ := c.w
  refine ⟨upd G p (.lst xs), ⟨g.g.trans (same_upd hg), g.h, lend_s c.s hh, fun b o z n => ?_⟩, q.trans (same_upd hg), lend_s c.s hh, ⟨hF G H _ c.s hh hg hA, xs, upd_same, rpAll_mono (same_upd hg) _ _ hx⟩, c.e.mono (same_upd hg)⟩
  by_cases hb : b = p
  · exact .inl (by rw [hb]; exact hH)
  · rw [upd_ne hb] at z
    exact g.n b o z n
end
theorem frz_ins {C q p : Addr} {fs : List (Str × Sl)} (h : q ≠ p) : Frz (InsD C q fs) p := fun G H o hs hp g ⟨h1, dx, gs, h2, h3⟩ => ⟨by rw [upd_ne h]; exact h1, dx, gs, h2, h3.mono (same_upd g)⟩
theorem frz_lent {q p : Addr} {ds : List PyData} : Frz (Lent q ds) p := fun G H o hs hp g ⟨xs, h1, h2⟩ => ⟨xs, by rw [upd_ne (ne_of_none h1 g)]; exact h1, rpAll_mono (same_upd g) _ _ h2⟩
theorem frm_lent {q p : Addr} {ds : List PyData} : Frm (Lent q ds) p := fun G H o hs g h => h
/-! a folded web -/
structure FS where
  nears : List (List Int)
  gone : List (Int × Int)
  left : List Int
def FoldedR (C p : Addr) (s : FS) : Res := InsD C p [("nears", En s.nears), ("gone", En s.gone), ("left", En s.left)]
theorem fold_is (C : Addr) {m : Str} (h1 : (m == ("nears" : Str)) = false := by decide) (h2 : (m == ("gone" : Str)) = false := by decide) (h3 : (m == ("left" : Str)) = false := by decide) : IsO (FoldedR C) C m := fun p s G H h => ins_obj h (by
  rw [List.lookup_cons, h1]
  show List.lookup m [("gone", _), ("left", _)] = none
  rw [List.lookup_cons, h2]
  show List.lookup m [("left", _)] = none
  rw [List.lookup_cons, h3]
  rfl)
theorem frz_Folded {C q p : Addr} {s : FS} (h : q ≠ p) : Frz (FoldedR C q s) p := frz_ins h
theorem frm_Folded {C q p : Addr} {s : FS} (h : q ≠ p) : Frm (FoldedR C q s) p := frm_ins h
/-- two attributes, shared now -/
theorem fold_of {C p g l : Addr} {n : List (List Int)} {gone : List (Int × Int)} {left : List Int} {G H : Hp} (h : (InsD C p [("nears", En n), ("gone", .v (.ref g)), ("left", .v (.ref l))]).p G H) (h1 : (Lent g (gone.map Datum.toD)).p G H) (h2 : (Lent l (left.map Datum.toD)).p G H) : (FoldedR C p ⟨n, gone, left⟩).p G H := by
  obtain ⟨a1, dx, gs, a2, a3⟩ := h
  cases a3 with
  | cons q1 t =>
    cases t with
    | cons q2 t =>
      cases t with
      | cons q3 t =>
        cases t
        have e2 : _ = V.ref g := q2
        have e3 : _ = V.ref l := q3
        subst e2 e3
        obtain ⟨xs, x1, x2⟩ := h1
        obtain ⟨ys, y1, y2⟩ := h2
        exact ⟨a1, dx, _, a2, .cons q1 (.cons (show Rp G _ (.list _) from .lst (.inl x1) x2) (.cons (show Rp G _ (.list _) from .lst (.inl y1) y2) .nil))⟩
section
variable {α : Type} [DecidableEq α] [DatumOrd α] [Inhabited α]
def minL : List α → α
  | [] => default
  | x :: xs => PySem.W.minOf x xs
def maxL : List α → α
  | [] => default
  | x :: xs => PySem.W.maxOf x xs
variable {X : Cx} {W : Res} {ρ : Ro} {pos fp : Pos} {a : Expr} {xs : List α} {k : Nat}
theorem te_minL (hr : Room k X.A) (hc : X.calm = true) (hm : X.mg "min" = none) (ha : TS X W a ρ xs) (h : xs ≠ []) (hd : Datum.depth α ≤ 62 := by decide) (hg : Gl X "min" := by rfl) (sa : SA1 X a pos := by exact ⟨rfl, rfl⟩) : DE X W (.Call (.Name "min" fp) [a] [] pos) ρ (En (minL xs)) := by
  cases xs with
  | nil => exact absurd rfl h
  | cons x r => exact de_min hr hc hm ha hd hg sa
theorem te_maxL (hr : Room k X.A) (hc : X.calm = true) (hm : X.mg "max" = none) (ha : TS X W a ρ xs) (h : xs ≠ []) (hd : Datum.depth α ≤ 62 := by decide) (hg : Gl X "max" := by rfl) (sa : SA1 X a pos := by exact ⟨rfl, rfl⟩) : DE X W (.Call (.Name "max" fp) [a] [] pos) ρ (En (maxL xs)) := by
  cases xs with
  | nil => exact absurd rfl h
  | cons x r => exact de_max hr hc hm ha hd hg sa
end
section
variable {X : Cx} {G0 H0 G1 : Hp} {W : Res} {ρ : Ro} {D : Ends} {pos p' : Pos} {e : Expr} {rest : List Stmt}
/-- x += e, whole numbers -/
theorem d_augI {i : Nat} {x : Str} {y0 y : Int} (hN : X.N.Nodup) (h0 : ρ[i]? = some (some (En y0))) (he : DE X W e ρ (En y)) (kr : ∀ z : Int, z = y0 + y → DSs X rest (At G0 H0 G1 W (ρ.set i (some (En z)))) D) (hi : X.N[i]? = some x := by rfl) (hx : Loc X.env.scope x := by first | exact Or.inl rfl | exact Or.inr rfl)
    (hf : X.fn x = true ∨ X.env.scope.names.lookup x = some .local := by first | exact Or.inl rfl | exact Or.inr rfl) : DSs X (.AugAssign (.Name x p') .Add e pos :: rest) (At G0 H0 G1 W ρ) D := by
  refine d_cons (dst_of (ps_aug hN hi hx he ip_add hf) fun σ H ⟨G, g, q, c⟩ => ?_) (kr _ rfl)
  obtain ⟨v, h1, h2⟩ := c.e.2 i _ h0
  have h2' : Rp G v (.int y0) := h2
  cases h2'
  refine ⟨.int y0, h1, G, c, fun u G' H' g' r => ?_⟩
  cases r
  exact ⟨y0, y, rfl, rfl, G', g.trans g', q.trans g'.g, g'.i, W.mono c.s g' c.w, (c.e.mono g'.g).set (s := En (y0 + y)) (show Rp G' (.int (y0 + y)) (.int (y0 + y)) from .int _) i⟩
end
theorem findSome_hit2 {α β : Type} {f : α → Option β} {v : β} {xs pre post : List α} {x : α} (e0 : xs = pre ++ x :: post) (h : ∀ y ∈ pre, f y = none) (e : f x = some v) : List.findSome? f xs = some v := by
  rw [e0]
  exact findSome_hit h e
section
variable {X : Cx} {W : Res} {ρ : Ro} {pos fp p2 fp2 : Pos} {a : Expr} {n : Int}
/-- list(range(n)) -/
theorem tn_listrng (hm : X.mg "list" = none) (hm2 : X.mg "range" = none) (ha : DE X W a ρ (En n)) (hn : -1000000 ≤ n ∧ n ≤ 1000000) (hc : X.calm = true := by rfl) (hg : Gl X "list" := by rfl) (hg2 : Gl X "range" := by rfl)
    (na : starEach [.Call (.Name "range" fp2) [a] [] p2] X.env = (false, eval (.Call (.Name "range" fp2) [a] [] p2) X.env) :: starEach [] X.env := by rfl) (nb : starEach [a] X.env = (false, eval a X.env) :: starEach [] X.env := by rfl) : TN X W (.Call (.Name "list" fp) [.Call (.Name "range" fp2) [a] [] p2] [] pos) ρ (rng 0 n) :=
  pe_imp (pe_listRg hc hg hm (prg_1 hg2 hm2 ha nb) na) fun σ H Q ⟨G, c, k⟩ => ⟨G, c, fun v G1 H1 g1 r1 => by
    cases r1
    have c1 := c.step g1
    refine ⟨n, rfl, ⟨by omega, by omega, by omega, by omega, by omega⟩, fun q hq => ?_⟩
    refine k q (rgV 0 n) G1 _ (g1.trans (.heap c1.s (same_upd hq))) (g1.h.free hq) (c1.s.free hq) upd_same ?_
    have e : rgV 0 n = (rng 0 n).map V.int := by
      unfold rgV rng
      rw [List.map_map]
      rfl
    rw [e]
    exact RpAll.ints _⟩
end
end DL

/-! DL16: an exception that is caught and kept as a value. -/
namespace DL
open PySem PySem.Spec L2
open PyProof.Rows hiding St
open PySem.W (Datum DatumOrd Tup T3 Holds HoldAll EachIs SomeDatum)
/-- the exception at a, of the class cls, caught -/
def ExW (cls : Value) (a : Addr) : HO := .ext fun h => ∃ (oe : Obj) (vs : Array Value), h.get? a = some oe ∧ Zc cls none oe ∧ oe.data = .fields vs
theorem exW_ok {P : Program} {w : World} {H : Hp} {h : Heap} {a : Addr} {cls : Value} {oe : Obj} {vs : Array Value} (e : h.get? a = some oe) (z : Zc cls none oe) (d : oe.data = .fields vs) : ObjOk P w H h a (ExW cls a) :=
  ⟨⟨oe, vs, e, z, d⟩, ⟨oe, e⟩, fun _ _ ⟨o, v, q, r⟩ k => ⟨o, v, k o q, r⟩⟩
section
variable {X : Cx} {pins : List (Addr × Obj)} {σ : L2.St} {H : Hp} {s : Shared}
/-- an object that stands there, tracked from now on -/
theorem inv_track {a : Addr} {o : HO} (I : Inv X pins σ H s) (hn : H a = none) (n0 : X.s_0.heap.get? a = none) (nl : a ≠ X.env.locals) (nc : ∀ x c, X.env.cells.lookup x = some c → c ≠ a) (np : ∀ p ∈ X.pn ++ pins, p.1 ≠ a) (new : ObjOk X.prog X.w (upd H a o) s.heap a o) : Inv X pins σ (upd H a o) s where
  ok := I.ok
  os := I.os
  bare := I.bare
  base := {
    keep := I.base.keep
    slot := I.base.slot
    free := fun b u e z q => by
      rw [upd_ne fun w => by rw [w, n0] at e; cases e]
      exact I.base.free b u e z q
    there := I.base.there
    tups := fun b xs e => by
      have q := I.base.tups b xs e
      rw [upd_ne (ne_of_none q hn)]
      exact q
    frzs := fun b u xs e => by
      have q := I.base.frzs b u xs e
      rw [upd_ne (ne_of_none q hn)]
      exact q
    tbls := fun b ps e => by
      obtain ⟨more, q⟩ := I.base.tbls b ps e
      exact ⟨more, by rw [upd_ne (ne_of_none q hn)]; exact q⟩ }
  loc := I.loc
  cell := I.cell
  free := by
    rw [upd_ne (Ne.symm nl)]
    exact I.free
  freeC := fun x c e => by
    rw [upd_ne (nc x c e)]
    exact I.freeC x c e
  pin := fun p hp => by
    obtain ⟨q1, q2, q3⟩ := I.pin p hp
    exact ⟨q1, by rw [upd_ne (np p hp)]; exact q2, q3⟩
  hok := I.hok.laidN (fun _ _ e => e) hn new
  len := I.len
end
/-- what 'except x as n: m = n' wishes of an exception of the body: slots i of n, j of m -/
def wKeep (K : PySem.W.Frag) (c : Value) (i j : Nat) (Wout : WX) (D : Ends) : WX := fun cls d σ H =>
  ∃ b, PySem.W.exmOne K cls c = some b ∧ (b = true → d = none ∧ ∀ a, H a = none → D.nx (((σ.set i (some (.ref a))).set j (some (.ref a))).set i none) (upd H a (ExW cls a))) ∧ (b = false → Wout cls d σ H)
section
variable {X : Cx} {x n m : Str} {c : Value} {i j : Nat} {body : List Stmt} {np p1 p2 p3 pos pos' : Pos} {tb : WX → L2.TS} {Wout : WX}
theorem ps_keep (hs : X.stack = X.env :: X.outer) (hf : X.env.frame = some X.env.locals) (hx : X.ex = []) (hN : X.N.Nodup) (hi : X.N[i]? = some n) (hj : X.N[j]? = some m) (hln : X.env.kindOf n = some .local) (hlm : Loc X.env.scope m) (hfm : X.fn m = true ∨ X.env.scope.names.lookup m = some .local) (hc : Names X x c) (tk : Takes X Wout)
    (hd1 : (n == ("__debug__" : Str)) = false) (hd2 : (n == ("__classdict__" : Str)) = false) (hsw : swapsWith (.Name n p2) (some (.Name m p1)) p3.line X.env = pure false)
    (hb : ∀ (W : WX) (pn : List (Addr × Obj)) (xe : Value → Shared → Prop), Takes (X.tr pn xe) W → PassesOwn (model X.prog X.w) X.A X.env xe → PSs (X.tr pn xe) body (tb W)) :
    PS X (.Try body [.ExceptHandler (some (.Name x np)) (some n) [.Assign [.Name m p1] (.Name n p2) p3] pos'] [] [] pos) (fun D σ H => tb (wKeep X.K c i j Wout D) D σ H) := by
  refine ⟨fun pins s σ H D I t0 => ?_⟩
  have okX := I.ok
  have frX : X.A.frames = some (X.env :: X.outer) := by rw [okX.frames, hs]
  have locN : Loc X.env.scope n := .inl hln
  refine wpAny_Try_except ?_
  have hbody := hb (wKeep X.K c i j Wout D) (X.pn ++ pins) (fun e s₁ => wpAny (model X.prog X.w) X.A (noteFrame e X.env) (fun _ s₂ => wpAny (model X.prog X.w) X.A (setFlight e none)
    (fun _ s₃ => wpAny (model X.prog X.w) X.A (handleBy e X.env [.ExceptHandler (some (.Name x np)) (some n) [.Assign [.Name m p1] (.Name n p2) p3] pos']) (SP X pins D) X.xe s₃) X.xe s₂) X.xe s₁)
  refine wpAny_mono ((hbody (fun u sB xx => ?caught) PassesOwn.looking).run [] s σ H D (I.toTry _) t0) (fun fl s1 hsp => ?ended) (fun e s1 he => he)
  case ended =>
    cases fl with
    | next =>
      obtain ⟨τ, Hn, In, q⟩ := hsp
      exact wpAny_execs_nil ⟨τ, Hn, In.ofTry okX, q⟩
    | ret u =>
      obtain ⟨v, τ, Hn, In, r, q⟩ := hsp
      exact ⟨v, τ, Hn, In.ofTry okX, r, q⟩
    | brk =>
      obtain ⟨τ, Hn, In, q⟩ := hsp
      exact ⟨τ, Hn, In.ofTry okX, q⟩
    | cont =>
      obtain ⟨τ, Hn, In, q⟩ := hsp
      exact ⟨τ, Hn, In.ofTry okX, q⟩
  case caught =>
    obtain ⟨a, B, sI, pinsB, τ, Hx, cls, dd, rfl, IB, ground, slots, sky, fa, os, ag, b, hbm, yes, no⟩ := xx
    have IX : Inv X pins τ Hx sI := IB.ofTry okX
    have skyX : Sky B (X.env :: X.outer) a (Zc cls dd) X.env.locals sB.heap := by rw [← hs]; exact sky
    show wpAny (model X.prog X.w) X.A (noteFrame (.ref a) X.env) _ _ _
    refine Sky.land Zc.steady frX hf skyX fun hA flA upA => ?_
    have IA : Inv X pins τ Hx { sB with heap := hA } := IX.landed ground flA.1 (slots.trans upA) os ag
    obtain ⟨oA, vA, getA, zA, datA⟩ := flA.there
    have noFrame : a ∉ frs (X.env :: X.outer) := fun hm => by
      obtain ⟨_, o', e', hnf⟩ := flA.2.2.1.mem hm
      rw [getA] at e'
      cases e'
      exact hnf _ datA
    have neL : a ≠ X.env.locals := fun z => noFrame (List.mem_filterMap.mpr ⟨X.env, List.mem_cons_self, by rw [hf, z]⟩)
    have neF : a ∉ X.fs := fun hm => by
      obtain ⟨e, he, q⟩ := List.mem_filterMap.mp hm
      exact noFrame (List.mem_filterMap.mpr ⟨e, List.mem_cons_of_mem _ he, q⟩)
    have fresh : sI.heap.get? a = none := by
      cases q : sI.heap.get? a with
      | none => rfl
      | some o =>
        have z := ground a o q (by rw [hs]; exact noFrame)
        rw [flA.2.1] at z
        cases z
    have fresh0 : X.s_0.heap.get? a = none := by
      cases q : X.s_0.heap.get? a with
      | none => rfl
      | some o =>
        obtain ⟨o', z⟩ := IX.base.there a o q (by rw [hx]; exact fun z => nomatch z)
        rw [fresh] at z
        cases z
    have freshP : ∀ p ∈ X.pn ++ pins, p.1 ≠ a := fun p hp e => by
      have z := (IX.pin p hp).1
      rw [e, fresh] at z
      cases z
    have freshC : ∀ y k, X.env.cells.lookup y = some k → k ≠ a := fun y k hk e => by
      obtain ⟨v, o, z, _⟩ := IX.cell y k hk
      rw [e, fresh] at z
      cases z
    have SA := IA.suite getA datA fa neL neF
    refine wpAny_handleBy_cons (codeAny_handlers_test ?_) (by intro q; cases q)
    have lookT : PySem.W.Looks (model X.prog X.w) hA (typeOf (.ref a)) cls := fun A Q E s k q => wpAny_typeOf_ref (k _ _ getA) (by rw [zA.1]; exact q)
    have lookM := PySem.W.exm_one (M := model X.prog X.w) (IA.kIn) lookT hbm
    have named : ∀ {Q : Value → Shared → Prop} {E : Value → Shared → Prop}, Q c { sB with heap := hA } → wpAny (model X.prog X.w) (X.A.mark (some (.ref a))) (eval (.Name x np) X.env) Q E { sB with heap := hA } := fun {Q E} q => by
      obtain ⟨hg, hdbg, hm | ⟨hm, hv, hnn⟩⟩ := hc
      · exact ld_glob (X := X.suite a ((a, oA) :: (X.pn ++ pins))) SA hg hm q hdbg
      · exact ld_blt (X := X.suite a ((a, oA) :: (X.pn ++ pins))) SA hg hm hv q hnn hdbg
    refine named (lookM.here ?_)
    cases b with
    | false =>
      show wpAny _ X.A (handleBy (.ref a) X.env []) _ _ _
      refine wpAny_handleBy_nil ?_
      obtain ⟨k1, k2, k3, oe, vs, T, oT, tsT, he, hz, hd, h1, hr⟩ := id flA
      unfold PySem.passOn
      refine wpAny_bind (wpAny_field he hd h1 ?_)
      rw [if_neg (show ¬ ((Value.ref T == Value.none) = true) from by simp)]
      have up : wpAny (model X.prog X.w) X.A (setFlight (.ref a) X.env.frame) (fun _ s4 => wpAny (model X.prog X.w) X.A (throw (.ref a) : Sem Flow) (SP X pins D) X.xe s4) X.xe { sB with heap := hA } := by
        rw [hf]
        refine HandSPX.setFlight_upZ flA fun hZ heldZ upZ => wpAny_throw (tk _ _ ?_)
        exact ⟨a, B, sI, pins, τ, Hx, cls, dd, rfl, IX, ground, (slots.trans upA).trans upZ, .inr (.inr (by rw [hs]; exact heldZ)), fa, os, ag, no rfl⟩
      first
        | exact wpAny_bind (wpAny_pure (wpAny_bind up))
        | exact wpAny_bind up
    | true =>
      obtain ⟨ed, keep⟩ := yes rfl
      subst ed
      refine codeAny_handlers_suite_as ?_
      refine HandSPX.lands_againZ flA fun hS flS upS => ?_
      have IS : Inv X pins τ Hx { sB with heap := hS } := IX.landed ground flS.1 ((slots.trans upA).trans upS) os ag
      obtain ⟨oS, vS, getS, zS, datS⟩ := flS.there
      have SS := IS.suite getS datS fa neL neF
      refine store_ok (X := X.suite a ((a, oS) :: (X.pn ++ pins))) (v := .ref a) SS hN hi locN rfl (fun s5 S5 => ?_) (.inr hln)
      have one : PSs (X.suite a ((a, oS) :: (X.pn ++ pins))) [.Assign [.Name m p1] (.Name n p2) p3] (tAsg (tVar i) (gName j)) := pss_one (ps_set (i := j) hN hj hlm (pe_var hi (.inl hln) hd1 hd2) hsw hfm)
      have hiL : i < τ.length := by
        rw [IX.len]
        exact (List.getElem?_eq_some_iff.mp hi).1
      refine wpAny_mono (one.run [] s5 _ Hx { nx := fun σ6 H6 => σ6 = (τ.set i (some (.ref a))).set j (some (.ref a)) ∧ H6 = Hx, rt := fun _ _ => False, bk := fun _ _ => False, ct := fun _ _ => False } S5 ⟨.ref a, List.getElem?_set_self hiL, rfl, rfl⟩) (fun fl s6 hsp => ?_) (fun _ _ z => False.elim z)
      cases fl with
      | next =>
        obtain ⟨σ6, H6, S6, rfl, rfl⟩ := hsp
        have get6 : s6.heap.get? a = some oS := (S6.pin (a, oS) (List.mem_append_left _ List.mem_cons_self)).1
        have I6 : Inv X pins ((τ.set i (some (.ref a))).set j (some (.ref a))) H6 s6 := S6.unsuite okX
        have J6 := inv_track (o := ExW cls a) I6 fa fresh0 neL freshC freshP (exW_ok get6 zS datS)
        exact gone_ok J6 hN hi hln fun s7 J7 => ⟨_, _, J7, keep a fa⟩
      | ret u =>
        obtain ⟨_, _, _, _, _, z⟩ := hsp
        exact z.elim
      | brk =>
        obtain ⟨_, _, _, z⟩ := hsp
        exact z.elim
      | cont =>
        obtain ⟨_, _, _, z⟩ := hsp
        exact z.elim
end
end DL

/-! DL17: defs that raise, their calls, try. -/
namespace DL
open PySem PySem.Spec L2
open PyProof.Rows hiding St
open PySem.W (Datum DatumOrd Tup T3 Holds HoldAll EachIs SomeDatum)
/-- a def that raises: R arguments, what is asked of the heaps, the class -/
def SpR (R : List Sl → Res → Value → Prop) : Sp := fun vs H _ E => ∃ G ss W c, Same G H ∧ W.p G H ∧ RepL G vs ss ∧ R ss W c ∧ ∀ G' H', Gw G H G' H' → E c none H'
/-- what is wished of an exception where one stands: the class c, nothing else has changed -/
def tR (W : Res) (ρ : Ro) (We : WX) (c : Value) : TE := fun σ H _ => ∃ G, Cxt W ρ G σ H ∧ ∀ G' H', Gw G H G' H' → We c none σ H'
/-- the expression raises c -/
abbrev RX (X : Cx) (We : WX) (W : Res) (e : Expr) (ρ : Ro) (c : Value) : Prop := PE X e (tR W ρ We c)
section
variable {P : Program} {w : World} {K : PySem.W.Frag} {mg : Str → Option Value} {base : Heap}
def FnR (P : Program) (w : World) (K : PySem.W.Frag) (mg : Str → Option Value) (base : Heap) (k : Nat) (x : Str) (ps : List Str) (R : List Sl → Res → Value → Prop) : Prop :=
  ∃ f fd, mg x = some (.ref f) ∧ PySem.W.keepIn K (.ref f) = true ∧ Binds K fd ps [] ∧ FnOk P w K mg base (L2.CX P w) k f fd ps (SpR R)
def MtX (P : Program) (w : World) (K : PySem.W.Frag) (mg : Str → Option Value) (base : Heap) (k : Nat) (C : Addr) (m : Str) (ps : List Str) (R : List Sl → Res → Value → Prop) : Prop :=
  ∃ f fd, Meth K C m f ∧ Binds K fd ps [] ∧ FnOk P w K mg base (L2.CX P w) k f fd ps (SpR R)
/-- where the body of such a def stands -/
def raisedAt (G0 H0 : Hp) (c : Value) : WX := fun cls d _ H => cls = c ∧ d = none ∧ ∃ G', Gw G0 H0 G' H
abbrev noEnd : Ends := { nx := fun _ _ => False, rt := fun _ _ => False, bk := fun _ _ => False, ct := fun _ _ => False }
theorem fn_r {x qual : Str} {params : Arguments} {body : List Stmt} {scope : Scope} {dvs : List V} {kws : List (Str × V)} {f : Addr} {fd : FuncData} {N ps : List Str} {k : Nat} {R : List Sl → Res → Value → Prop} (F : FunD K x qual params body scope dvs kws f fd) (S : FnScope N ps scope)
    (len : ∀ ss W c, R ss W c → ss.length = ps.length)
    (hb : ∀ (cdv : Value) (A : Around) (outer : List Env) (s : Shared) (G0 H0 : Hp) (E : XK) ss W c, Room k (A.deeper (envOfC qual scope s.heap.objs.size f cdv)) → R ss W c → Takes (cxOf (L2.CX P w) P w K mg base N qual scope f cdv A outer s H0 E) (raisedAt G0 H0 c) →
      DSs (cxOf (L2.CX P w) P w K mg base N qual scope f cdv A outer s H0 E) body (At G0 H0 G0 W (startR N ss)) noEnd) : FnOk P w K mg base (L2.CX P w) (k + 1) f fd ps (SpR R) := by
  refine FunD.ok F S (fun vs H Q E ⟨G, ss, W, c, _, _, h, hR, _⟩ => by rw [h.length]; exact len _ _ _ hR) fun cdv A outer s H vs Q E hr ⟨G, ss, W, c, hs, hw, h, hR, k⟩ => ?_
  refine ⟨tB (cxOf (L2.CX P w) P w K mg base N qual scope f cdv A outer s H E) body, ⟨fun pins s2 σ2 H2 D2 I2 ⟨P2, h2, p2⟩ => h2.run pins s2 σ2 H2 I2 p2⟩, ?_⟩
  have tk : Takes (cxOf (L2.CX P w) P w K mg base N qual scope f cdv A outer s H E) (fun cls d _ H' => E cls d H') := takes_of rfl rfl rfl rfl
  have d := hb cdv A outer s G H E ss W c hr hR (tk.imp fun cls d σ H' ⟨e1, e2, G', g⟩ => by
    rw [e1, e2]
    exact k G' H' g)
  refine ⟨At G H G W (startR N ss), ⟨fun pins s2 σ2 H2 I2 p2 => ?_⟩, G, .refl hs, Same.refl _, hs, hw, env_start h⟩
  refine wpAny_mono (d.run pins s2 σ2 H2 I2 p2) (fun fl s3 q => ?_) fun _ _ z => z
  cases fl with
  | next =>
    obtain ⟨_, _, _, z⟩ := q
    exact z.elim
  | ret u =>
    obtain ⟨_, _, _, _, _, z⟩ := q
    exact z.elim
  | brk =>
    obtain ⟨_, _, _, z⟩ := q
    exact z.elim
  | cont =>
    obtain ⟨_, _, _, z⟩ := q
    exact z.elim
end
section
variable {X : Cx} {CX : CXT} {k : Nat} {f C : Addr} {fd : FuncData} {ps : List Str} {sp : Sp} {E : L2.St → XK} {m : Str} {pos apos : Pos} {e o : Expr} {es : List Expr} {ta : TE} {t : L2.TA}
def tMethE (C : Addr) (m : Str) (sp : Sp) (E : L2.St → XK) (ta : TE) (t : L2.TA) : TE := fun σ H Q => ta σ H fun x H1 => ∃ a dx fs, x = .ref a ∧ H1 a = some (.ins C dx fs) ∧ fs.lookup m = none ∧ t σ H1 fun vs H2 => sp (.ref a :: vs) H2 Q (E σ)
/-- a method that may raise, at the slots where one stands -/
theorem pe_methE {pl : Sem Bool} (ho : PE X o ta) (cl : Cls X.K C) (hm : Meth X.K C m f) (F : FnOk X.prog X.w X.K X.mg X.base CX k f fd ps sp) (hr : Room k X.A) (hb : Binds X.K fd ps []) (hp : ∀ σ, PassesAt CX X σ (E σ)) (ha : PA X (e :: es) t)
    (he : starEach (e :: es) X.env = (false, eval e X.env) :: starEach es X.env) (hpl : (backTo pos (starEach es X.env)).any (·.1) = false)
    (ht : eval (.Call (.Attribute o m apos) (e :: es) [] pos) X.env = (do
      let ov ← eval o X.env
      standAt apos.atName
      let (f, first) ← holding [ov] (getMethod ov m pl)
      callWith pos f first (backTo pos (starEach (e :: es) X.env)) (backToKw pos (keywordEach [] X.env)))) : PE X (.Call (.Attribute o m apos) (e :: es) [] pos) (tMethE C m sp E ta t) := by
  refine ⟨fun pins st σ H Q I h => PySem.W.methodCall_KW (pl := pl) (thn (ho.run pins st σ H _ I h) fun u st1 z => ?_) ht⟩
  obtain ⟨x, H1, I1, rx, a, dx, fs, rfl, there, noOwn, q⟩ := z
  cases rx
  refine getmeth_ok I1 there cl hm noOwn (PySem.W.callWith_K (first := [.ref a]) (h₀ := X.base) I.ok.mod.kin hm.kp (thn (ha.run pos pins st1 σ H1 _ I1 q) fun us st2 z2 => ?_) he hpl)
  obtain ⟨vs, H2, I2, r, q2⟩ := z2
  exact ⟨I2.kIn, run_fnS (us := .ref a :: us) (vs := .ref a :: vs) F hr hb (hp σ) I2 (.cons rfl r) q2⟩
end
section
variable {X : Cx} {We : WX} {W W0 : Res} {ρ : Ro} {pos fp apos : Pos} {e o : Expr} {es : List Expr} {ss : List Sl} {c : Value} {k j : Nat} {x m : Str} {ps : List Str} {R : List Sl → Res → Value → Prop} {C p : Addr}
theorem rx_call (F : FnR X.prog X.w X.K X.mg X.base j x ps R) (tk : Takes X We) (hr : Room k X.A) (ha : DA X W (e :: es) ρ ss) (hW : ∀ G H, Same G H → W.p G H → W0.p G H) (hR : R ss W0 c) (hj : j ≤ k := by decide) (hg : Gl X x := by rfl) (hdb : (x == ("__debug__" : Str)) = false := by decide)
    (he : starEach (e :: es) X.env = (false, eval e X.env) :: starEach es X.env := by rfl) (hpl : (backTo pos (starEach es X.env)).any (·.1) = false := by rfl) : RX X We W (.Call (.Name x fp) (e :: es) [] pos) ρ c := by
  obtain ⟨f, fd, h1, h2, h3, h4⟩ := F
  exact pe_imp (pe_callS (E := WE We) h4 (hr.mono hj) hg h1 h2 h3 (fun σ => passAt tk σ) ha hdb he hpl) fun σ H Q ⟨G, cx, q⟩ => ⟨G, cx, fun vs G1 H1 g1 r1 =>
    ⟨G1, ss, W0, c, g1.i, hW _ _ g1.i (cx.step g1).w, r1, hR, fun G2 H2 g2 => q G2 H2 (g1.trans g2)⟩⟩
theorem rx_meth {pl : Sem Bool} (F : MtX X.prog X.w X.K X.mg X.base j C m ps R) (cl : Cls X.K C) (tk : Takes X We) (hr : Room k X.A) (ho : DE X W o ρ (.v (.ref p))) (hob : ∀ G H, Same G H → W.p G H → ∃ dx fs, H p = some (.ins C dx fs) ∧ fs.lookup m = none) (ha : DA X W (e :: es) ρ ss) (hW : ∀ G H, Same G H → W.p G H → W0.p G H) (hR : R (.v (.ref p) :: ss) W0 c) (hj : j ≤ k := by decide)
    (he : starEach (e :: es) X.env = (false, eval e X.env) :: starEach es X.env := by rfl) (hpl : (backTo pos (starEach es X.env)).any (·.1) = false := by rfl)
    (ht : eval (.Call (.Attribute o m apos) (e :: es) [] pos) X.env = (do
      let ov ← eval o X.env
      standAt apos.atName
      let (f, first) ← holding [ov] (getMethod ov m pl)
      callWith pos f first (backTo pos (starEach (e :: es) X.env)) (backToKw pos (keywordEach [] X.env))) := by rfl) : RX X We W (.Call (.Attribute o m apos) (e :: es) [] pos) ρ c := by
  obtain ⟨f, fd, h1, h3, h4⟩ := F
  exact pe_imp (pe_methE (pl := pl) (E := WE We) ho cl h1 h4 (hr.mono hj) h3 (fun σ => passAt tk σ) ha he hpl ht) fun σ H Q ⟨G, cx, q⟩ => ⟨G, cx, fun v G1 H1 g1 r1 => by
    have ev : v = .ref p := r1
    subst ev
    obtain ⟨dx, fs, h5, h6⟩ := hob G1 H1 g1.i (cx.step g1).w
    exact ⟨p, dx, fs, rfl, h5, h6, G1, cx.step g1, fun vs G2 H2 g2 r2 =>
      ⟨G2, .v (.ref p) :: ss, W0, c, g2.i, hW _ _ g2.i ((cx.step g1).step g2).w, .cons rfl r2, hR, fun G3 H3 g3 => q G3 H3 ((g1.trans g2).trans g3)⟩⟩⟩
end
/-! statements that raise -/
section
variable {X : Cx} {G0 H0 G1 : Hp} {We : WX} {W : Res} {ρ : Ro} {D : Ends} {pos pos' p p2 : Pos} {e : Expr} {rest : List Stmt} {c : Value} {C : Addr} {x m : Str} {j : Nat}
/-- raise X("..") of an own class -/
theorem d_raise {bmB : List Value} {B newId initId : String} (hc : X.calm = true) (tk : Takes X We) (F : ExcBaseFacts B newId initId bmB) (q : PySem.W.excIn X.K C bmB newId = true) (gC : X.mg x = some (.ref C)) (kC : PySem.W.keepIn X.K (.ref C) = true) (r : Raises X (.ref C)) (h : ∀ σ H, At G0 H0 G1 W ρ σ H → We (.ref C) none σ H) (hg : Gl X x := by rfl) (hdb : (x == ("__debug__" : Str)) = false := by decide) :
    DSs X (.Raise (some (.Call (.Name x p) [.Constant (.str m) j p2] [] pos)) none pos' :: rest) (At G0 H0 G1 W ρ) D :=
  d_cons (M := fun _ _ => False) (dst_of (ps_raise hc tk (pmk_own F q gC kC r hg hdb)) fun σ H a => h σ H a) ⟨fun _ _ _ _ _ z => z.elim⟩
theorem d_dropR (he : RX X We W e ρ c) (h : ∀ σ H, At G0 H0 G1 W ρ σ H → We c none σ H) (hs : swapsWith e none pos.line X.env = pure false := by rfl) : DSs X (.Expr e pos :: rest) (At G0 H0 G1 W ρ) D :=
  d_cons (M := fun _ _ => False) (dst_of (ps_expr he hs) fun σ H ⟨G, g, q, cx⟩ => ⟨G, cx, fun G' H' g' => h σ H' ⟨G', g.trans g', q.trans g'.g, cx.step g'⟩⟩) ⟨fun _ _ _ _ _ z => z.elim⟩
theorem d_setR {i : Nat} {y : Str} (hN : X.N.Nodup) (he : RX X We W e ρ c) (h : ∀ σ H, At G0 H0 G1 W ρ σ H → We c none σ H) (hi : X.N[i]? = some y := by rfl) (hx : Loc X.env.scope y := by first | exact Or.inl rfl | exact Or.inr rfl)
    (hs : swapsWith e (some (.Name y p)) pos.line X.env = pure false := by rfl) (hf : X.fn y = true ∨ X.env.scope.names.lookup y = some .local := by first | exact Or.inl rfl | exact Or.inr rfl) : DSs X (.Assign [.Name y p] e pos :: rest) (At G0 H0 G1 W ρ) D :=
  d_cons (M := fun _ _ => False) (dst_of (ps_set hN hi hx he hs hf) fun σ H ⟨G, g, q, cx⟩ => ⟨G, cx, fun G' H' g' => h σ H' ⟨G', g.trans g', q.trans g'.g, cx.step g'⟩⟩) ⟨fun _ _ _ _ _ z => z.elim⟩
theorem d_retR (he : RX X We W e ρ c) (h : ∀ σ H, At G0 H0 G1 W ρ σ H → We c none σ H) : DSs X (.Return (some e) pos :: rest) (At G0 H0 G1 W ρ) D :=
  d_cons (M := fun _ _ => False) (dst_of (ps_ret he) fun σ H ⟨G, g, q, cx⟩ => ⟨G, cx, fun G' H' g' => h σ H' ⟨G', g.trans g', q.trans g'.g, cx.step g'⟩⟩) ⟨fun _ _ _ _ _ z => z.elim⟩
end
/-! try -/
theorem takes_no {X : Cx} : Takes X (fun _ _ _ _ => False) := fun u st h => by
  obtain ⟨_, _, _, _, _, _, _, _, _, _, _, _, _, _, _, _, z⟩ := h
  exact z.elim
/-- the exception at a, caught, of the class at C -/
def ExcR (C a : Addr) : Res := ⟨fun G H => G a = none ∧ H a = some (ExW (.ref C) a), fun s g ⟨h1, h2⟩ => ⟨g.nosh h2 (fun _ z => nomatch z) h1, g.h a _ h2⟩⟩
section
variable {X : Cx} {G0 H0 G1 : Hp} {W : Res} {ρ : Ro} {D : Ends} {pos pos' np p1 p2 p3 : Pos} {rest body : List Stmt} {x n m : Str} {c : Value} {i j : Nat} {C : Addr}
/-- the body raises nothing -/
theorem d_tryN {h₀ : ExceptHandler} {hs : List ExceptHandler} {M : L2.St → Hp → Prop} (hb : DSs X.nox body (At G0 H0 G1 W ρ) { D with nx := M }) (k : DSs X rest M D) : DSs X (.Try body (h₀ :: hs) [] [] pos :: rest) (At G0 H0 G1 W ρ) D := by
  have b : PSs X.nox body (tB X.nox body) := ⟨fun pins s σ H D I ⟨P, h, p⟩ => h.run pins s σ H I p⟩
  exact d_cons (M := M) (dst_of (ps_try_thru0 b) fun σ H p => ⟨_, hb, p⟩) k
/-- the body raises C, the clause keeps it in m -/
theorem d_tryK (hs : X.stack = X.env :: X.outer) (hf : X.env.frame = some X.env.locals) (hx : X.ex = []) (hN : X.N.Nodup) (tk : Takes X (fun _ _ _ _ => False)) (hc : Names X x c) (hm : PySem.W.exmOne X.K (.ref C) c = some true) (hij : i ≠ j)
    (hb : ∀ (pn : List (Addr × Obj)) (xe : Value → Shared → Prop), Takes (X.tr pn xe) (fun cls d σ H => cls = .ref C ∧ d = none ∧ At G0 H0 G1 W ρ σ H) → DSs (X.tr pn xe) body (At G0 H0 G1 W ρ) noEnd)
    (k : ∀ a, H0 a = none → DSs X rest (At G0 H0 G1 (W.and (ExcR C a)) ((ρ.set j (some (.v (.ref a)))).set i none)) D)
    (hi : X.N[i]? = some n := by rfl) (hj : X.N[j]? = some m := by rfl) (hln : X.env.kindOf n = some .local := by rfl) (hlm : Loc X.env.scope m := by first | exact Or.inl rfl | exact Or.inr rfl) (hfm : X.fn m = true ∨ X.env.scope.names.lookup m = some .local := by first | exact Or.inl rfl | exact Or.inr rfl)
    (hd1 : (n == ("__debug__" : Str)) = false := by decide) (hd2 : (n == ("__classdict__" : Str)) = false := by decide) (hsw : swapsWith (.Name n p2) (some (.Name m p1)) p3.line X.env = pure false := by rfl) :
    DSs X (.Try body [.ExceptHandler (some (.Name x np)) (some n) [.Assign [.Name m p1] (.Name n p2) p3] pos'] [] [] pos :: rest) (At G0 H0 G1 W ρ) D := by
  refine d_cons (M := fun σ H => ∃ a, H0 a = none ∧ At G0 H0 G1 (W.and (ExcR C a)) ((ρ.set j (some (.v (.ref a)))).set i none) σ H) ?_ (d_ex fun a => d_and (k a))
  refine dst_of (ps_keep (i := i) (j := j) (c := c) (tb := fun We D σ H => ∃ P, (∀ pn xe, Takes (X.tr pn xe) We → DSs (X.tr pn xe) body P D) ∧ P σ H) hs hf hx hN hi hj hln hlm hfm hc tk hd1 hd2 hsw fun We pn xe tk' _ => ⟨fun pins s σ H D I ⟨P, h, p⟩ => (h pn xe tk').run pins s σ H I p⟩) fun σ H at0 => ⟨At G0 H0 G1 W ρ, fun pn xe tk' => ?_, at0⟩
  have d := hb pn xe (tk'.imp fun cls d τ Hx ⟨e1, e2, G, g, q, cx⟩ => by
    subst e1 e2
    refine ⟨true, hm, fun _ => ⟨rfl, fun a ha => ⟨a, g.h.free ha, G, ⟨g.g, fun b o z => ?_, fun b o z => ?_, g.n⟩, q, fun b o z => ?_, ⟨?_, cx.s.free ha, upd_same⟩, ?_⟩⟩, fun z => by cases z⟩
    · rw [upd_ne (ne_of_none z (g.h.free ha))]
      exact g.h b o z
    · rw [upd_ne (ne_of_none (g.i b o z) ha)]
      exact g.i b o z
    · rw [upd_ne (ne_of_none (cx.s b o z) ha)]
      exact cx.s b o z
    · exact W.mono cx.s (.heap cx.s (same_upd ha)) cx.w
    · refine ⟨by rw [List.length_set, List.length_set, List.length_set, List.length_set, List.length_set]; exact cx.e.1, fun t s z => ?_⟩
      by_cases h1 : i = t
      · subst h1
        by_cases hl : i < (ρ.set j (some (.v (.ref a)))).length
        · rw [List.getElem?_set_self hl] at z
          cases z
        · rw [List.getElem?_eq_none (by rw [List.length_set]; omega)] at z
          cases z
      · rw [List.getElem?_set_ne h1] at z ⊢
        by_cases h2 : j = t
        · subst h2
          have hl : j < ρ.length := by
            have := (List.getElem?_eq_some_iff.mp z).1
            rwa [List.length_set] at this
          rw [List.getElem?_set_self hl] at z
          cases z
          exact ⟨.ref a, List.getElem?_set_self (by rw [List.length_set, ← cx.e.1]; exact hl), rfl⟩
        · rw [List.getElem?_set_ne h2] at z ⊢
          rw [List.getElem?_set_ne h1]
          exact cx.e.2 t s z)
  refine ⟨fun pins s σ H I p => wpAny_mono (d.run pins s σ H I p) (fun fl s1 z => ?_) fun _ _ z => z⟩
  cases fl with
  | next =>
    obtain ⟨_, _, _, z⟩ := z
    exact z.elim
  | ret u =>
    obtain ⟨_, _, _, _, _, z⟩ := z
    exact z.elim
  | brk =>
    obtain ⟨_, _, _, z⟩ := z
    exact z.elim
  | cont =>
    obtain ⟨_, _, _, z⟩ := z
    exact z.elim
end
end DL

/-! DL18: isinstance of a caught exception; what the head tells of exception classes. -/
namespace DL
open PySem PySem.Spec L2
open PyProof.Rows hiding St
open PySem.W (Datum DatumOrd Tup T3 Holds HoldAll EachIs SomeDatum)
def rIsW (K : PySem.W.Frag) (D a : Addr) : List V → Hp → VK → Prop := fun xs H Q => ∃ (c : V) (cv : Value) (b : Bool), xs = [.ref a, c] ∧ (∀ u, RelV c u → u = cv) ∧ H a = some (ExW (.ref D) a) ∧ PySem.W.kitOne K (.ref D) cv = some b ∧ Q (.bl b) H
theorem call_isW {X : Cx} {a D : Addr} (C : ExcC X.K D) : CallR X (.builtin "isinstance") (rIsW X.K D a) := by
  intro pins s σ H xs us Q I r h
  obtain ⟨c, cv, b, rfl, hcv, ha, e, q⟩ := h
  obtain ⟨u1, u2, rfl, r1, r2⟩ := vals2 r
  cases r1
  have ec := hcv _ r2
  subst ec
  obtain ⟨⟨oe, vs, hget, hz, hv⟩, _, _⟩ := I.hok a _ ha
  have J : PySem.W.InstAt s.heap a oe D none := by
    obtain ⟨oc, od, oda, osl⟩ := oe
    obtain ⟨z1, z2⟩ := hz
    dsimp only at z1 z2 hv
    subst z1 z2 hv
    exact ⟨hget, rfl, rfl, trivial⟩
  exact PySem.W.kia_one (PySem.W.handS_kitx_exc C.hg C.hk C.hs C.hd C.ha C.hn C.ht C.hm) I.kIn J e (fun z => nomatch z) fun tk => ⟨.bl b, H, I.kept (t' := tk) fun _ _ z => z, rfl, q⟩
section
variable {X : Cx} {W : Res} {ρ : Ro} {pos fp tp : Pos} {a : Expr} {p D : Addr} {x : Str} {b : Bool} {c : V} {cv : Value}
/-- isinstance(e, C), e caught -/
theorem de_isX (hm : X.mg "isinstance" = none) (hE : ExcC X.K D) (ha : DE X W a ρ (.v (.ref p))) (hW : ∀ G H, Same G H → W.p G H → H p = some (ExW (.ref D) p)) (ht : PE X (.Name x tp) (tC c)) (hc : ∀ u, RelV c u → u = cv) (hk : PySem.W.kitOne X.K (.ref D) cv = some b) (hg : Gl X "isinstance" := by rfl)
    (sa : SA2 X a (.Name x tp) pos := by exact ⟨rfl, rfl, rfl⟩) : DE X W (.Call (.Name "isinstance" fp) [a, .Name x tp] [] pos) ρ (En b) :=
  de_tCB (pe_callB (call_isW (a := p) hE) hg hm (by decide +kernel) (da_cons ha (da_cons (de_cst (s := .v c) ht fun _ => rfl) da_nil sa.h2) sa.h) (he := sa.h) (hpl := sa.b)) fun G H vs Q hs hw r q => by
    cases r with
    | cons h t =>
      cases t with
      | cons h2 t =>
        cases t
        have e1 : _ = V.ref p := h
        have e2 : _ = c := h2
        subst e1 e2
        exact ⟨_, cv, b, rfl, hc, hW G H hs hw, hk, q _ G H (.refl hs) (.bl b)⟩
/-- isinstance(d, C), d data, C a class of the program -/
theorem de_isC {d : PyData} {C : Addr} (hm : X.mg "isinstance" = none) (ha : DE X W a ρ (.d d)) (ht : X.mg x = some (.ref C)) (hk : PySem.W.kitOne X.K (.type (tyD d)) (.ref C) = some b) (hgx : Gl X x := by rfl) (hdb : (x == ("__debug__" : Str)) = false := by decide) (hg : Gl X "isinstance" := by rfl)
    (sa : SA2 X a (.Name x tp) pos := by exact ⟨rfl, rfl, rfl⟩) : DE X W (.Call (.Name "isinstance" fp) [a, .Name x tp] [] pos) ρ (En b) :=
  de_tCB (pe_callB call_isi hg hm (by decide +kernel) (da_cons ha (da_cons (de_cst (s := .v (.ref C)) (pe_glob (v := .ref C) hgx ht rfl hdb) fun _ => rfl) da_nil sa.h2) sa.h) (he := sa.h) (hpl := sa.b)) fun G H vs Q hs hw r q => by
    cases r with
    | cons h t =>
      cases t with
      | cons h2 t =>
        cases t
        have e2 : _ = V.ref C := h2
        subst e2
        exact ⟨_, .ref C, .type (tyD d), .ref C, b, rfl, .own C, TyX.mono hs h, hk, q _ G H (.refl hs) (.bl b)⟩
theorem de_notNv {j : Nat} {p2 : Pos} (ha : DE X W a ρ (.v (.ref p))) (h1 : behindInMarks .IsNot (.Constant .none j p2) = false := by rfl) : DE X W (.Compare a [.IsNot] [.Constant .none j p2] pos) ρ (En true) :=
  pe_imp (pe_cmp (pc_notN ha) h1) fun σ H Q ⟨G, c, k⟩ => ⟨G, c, fun v G' H' g r => by
    have ev : v = .ref p := r
    subst ev
    exact k _ G' H' g (.bl true)⟩
theorem dt_notNv {j : Nat} {p2 : Pos} (ha : DE X W a ρ (.v (.ref p))) (h1 : behindInMarks .IsNot (.Constant .none j p2) = false := by rfl) : DT X W (.Compare a [.IsNot] [.Constant .none j p2] pos) ρ true :=
  pt_imp (pt_cmp (pc_notN ha) h1) fun σ H Q ⟨G, c, k⟩ => ⟨G, c, fun v G' H' g r => by
    have ev : v = .ref p := r
    subst ev
    exact ⟨_, rfl, k G' H' g⟩⟩
end
/-! the head's word of exception classes -/
/-- what isinstance asks of the class D, as a Bool -/
def excCB (K : PySem.W.Frag) (D : Addr) : Bool :=
  decide (PySem.W.findIn K (.ref D) "__getattribute__" = some (some (.builtin "BaseException.__getattribute__"))) && (decide (PySem.W.findIn K (.ref D) "__getattr__" = some none) && (decide (PySem.W.subIn K (.ref D) (.type "BaseException") = some true) && (PySem.W.hasDictIn K D &&
  (decide (PySem.W.findIn K (.ref D) "__class__" = some (some (.builtin "object.__class__"))) && (decide (PySem.W.specialIn K (.builtin "object.__class__") "__get__" = some (some (.builtin "getset_descriptor.__get__"))) && (decide (PySem.W.takesIn K (.builtin "object.__class__") = some true) && decide (PySem.W.mroIn K D (.type "object") = some true)))))))
theorem excC_of {K : PySem.W.Frag} {D : Addr} (h : excCB K D = true) : ExcC K D := by
  unfold excCB at h
  simp only [Bool.and_eq_true, decide_eq_true_eq] at h
  obtain ⟨h1, h2, h3, h4, h5, h6, h7, h8⟩ := h
  exact ⟨h1, h2, h3, h4, h5, h6, h7, h8⟩
/-- an own exception class over ValueError that has an __init__ -/
def oexB (K : PySem.W.Frag) (C : Addr) : Bool := (match K.lookup C with
  | some ⟨.type "type", _, .cls cd, sl⟩ => (match cd.mro, sl.toList with
    | .ref C' :: bm, [_, _, _, _, some (.builtin n), _] => C' == C && (n == "ValueError.__new__" && (cd.hasDict && (!cd.hasDel && PySem.HandSPX.refsVE bm)))
    | _, _ => false)
  | _ => false) && (decide (PySem.W.findIn K (.ref C) "__setattr__" = some (some (.builtin "object.__setattr__"))) && (decide (PySem.W.subIn K (.ref C) (.type "BaseException") = some true) && (decide (PySem.W.typeIn K (.ref C) = some (.type "type")) && PySem.W.keepIn K (.ref C))))
theorem oexC_of {K : PySem.W.Frag} {C : Addr} (h : oexB K C = true) : OexC K C := by
  unfold oexB at h
  rw [Bool.and_eq_true, Bool.and_eq_true, Bool.and_eq_true, Bool.and_eq_true, decide_eq_true_eq, decide_eq_true_eq, decide_eq_true_eq] at h
  obtain ⟨h1, h2, h3, h4, h5⟩ := h
  refine ⟨?_, h2, h3, h4, h5⟩
  split at h1
  · rename_i dd cd sl ho
    split at h1
    · rename_i C' bm k0 k1 k2 k3 n k5 hm hs
      simp only [Bool.and_eq_true, beq_iff_eq, Bool.not_eq_true'] at h1
      obtain ⟨rfl, rfl, hh, hdel, ht⟩ := h1
      obtain ⟨nm, bs, mro, ns, qn, hd, sn, sub, ab, col, del⟩ := cd
      dsimp only at hm hdel hh
      subst hm hdel hh
      have hsl : sl = #[k0, k1, k2, k3, some (.builtin "ValueError.__new__"), k5] := by
        obtain ⟨l⟩ := sl
        simp only at hs
        rw [hs]
      subst hsl
      exact ⟨nm, qn, ns, bs, bm, sn, sub, ab, col, dd, k0, k1, k2, k3, k5, ho, ht⟩
    · cases h1
  · cases h1
/-- B, an own class without an __init__ of its own, over ValueError -/
structure HinC (K : PySem.W.Frag) (B : Addr) : Prop where
  cr : ClX.CRead K B (.type "type")
  at_ : PySem.W.findCls K (.ref B) (.type "type") "__init__" = some (.val (.builtin "ValueError.__init__"))
def hinB (K : PySem.W.Frag) (B : Addr) : Bool := PySem.W.readsIn K B (.type "type") && (decide (PySem.W.specialIn K (.ref B) "__getattribute__" = some (some (.builtin "type.__getattribute__"))) && (match PySem.W.findCls K (.ref B) (.type "type") "__init__" with
  | some (.val (.builtin n)) => n == "ValueError.__init__"
  | _ => false))
theorem hinC_of {K : PySem.W.Frag} {B : Addr} (h : hinB K B = true) : HinC K B := by
  unfold hinB at h
  rw [Bool.and_eq_true, Bool.and_eq_true, decide_eq_true_eq] at h
  obtain ⟨h1, h2, h3⟩ := h
  refine ⟨⟨h1, h2⟩, ?_⟩
  split at h3
  · rename_i n q
    rw [q, beq_iff_eq.mp h3]
  · cases h3
/-- more facts, by a Bool of the fragment -/
inductive Fx where
  | exc (x : Str)
  | kit (x y : Str) (b : Bool)
  | kitT (x : Str) (y : String) (b : Bool)
  | tkit (x : String) (y : Str) (b : Bool)
  | objc (x : Str)
  | oex (x : Str)
  | hin (x : Str)
  | nofld (x f : Str)
def Fx.ok (K : PySem.W.Frag) : Fx → Bool
  | .exc x => excCB K (He.ga K x)
  | .kit x y b => decide (PySem.W.kitOne K (.ref (He.ga K x)) (.ref (He.ga K y)) = some b)
  | .kitT x y b => decide (PySem.W.kitOne K (.ref (He.ga K x)) (.type y) = some b)
  | .tkit x y b => decide (PySem.W.kitOne K (.type x) (.ref (He.ga K y)) = some b)
  | .objc x => decide (PySem.W.findIn K (.ref (He.ga K x)) "__class__" = some (some (.builtin "object.__class__"))) && (decide (PySem.W.specialIn K (.builtin "object.__class__") "__get__" = some (some (.builtin "getset_descriptor.__get__"))) && (decide (PySem.W.takesIn K (.builtin "object.__class__") = some true) && (decide (PySem.W.mroIn K (He.ga K x) (.type "object") = some true) && decide (PySem.W.kitOne K (.ref (He.ga K x)) (.ref (He.ga K x)) = some true))))
  | .oex x => oexB K (He.ga K x)
  | .hin x => hinB K (He.ga K x)
  | .nofld x f => decide (PySem.W.findIn K (.ref (He.ga K x)) f = some none)
abbrev AlM : Type := He.AlD × Bool
def obsM (n : Nat) (fa : List He.Fa) (fn : List He.DefD) (fx : List Fx) (g : Addr → Option Obj) : AlM := (He.obsD fa fn (frL g (PySem.cStatics :: He.asD g n)), fx.all fun f => f.ok (frL g (PySem.cStatics :: He.asD g n)))
structure SaysM (fa : List He.Fa) (fn : List He.DefD) (fx : List Fx) (K : PySem.W.Frag) : Prop where
  d : He.SaysD fa fn K
  x : (fx.all fun f => f.ok K) = true
theorem SaysM.fact {fa : List He.Fa} {fn : List He.DefD} {fx : List Fx} {K : PySem.W.Frag} (c : SaysM fa fn fx K) (i : Nat) {f : He.Fa} (h : fa[i]? = some f := by rfl) : f.ok K = true := c.d.fact i h
theorem SaysM.def_ {fa : List He.Fa} {fn : List He.DefD} {fx : List Fx} {K : PySem.W.Frag} (c : SaysM fa fn fx K) (i : Nat) {d : He.DefD} (h : fn[i]? = some d := by rfl) : ∃ fd, FunD K d.name d.qual d.params d.body d.scope (d.dvs K) (d.kws K) (He.fAd K d.at_) fd := c.d.def_ i h
theorem SaysM.fx {fa : List He.Fa} {fn : List He.DefD} {fx : List Fx} {K : PySem.W.Frag} (c : SaysM fa fn fx K) (i : Nat) {f : Fx} (h : fx[i]? = some f := by rfl) : f.ok K = true := List.all_eq_true.mp c.x f (List.mem_of_getElem? h)
def hookM (n : Nat) (fa : List He.Fa) (fn : List He.DefD) (fx : List Fx) : PySem.W.Hook where
  α := AlM
  obs := fun s => obsM n fa fn fx s.heap.get?
  val := fun _ => (He.valD fn, true)
  says := fun _ h => ∃ K : PySem.W.Frag, K.In h ∧ SaysM fa fn fx K ∧ NoList K
  of := fun _ _ e => ⟨_, fun _ _ q => (frL_look q).1, ⟨congrArg Prod.fst e, congrArg Prod.snd e⟩, fun _ _ q => (frL_look q).2⟩
  keeps := fun _ _ _ ⟨K, hK, c, l⟩ k => ⟨K, PySem.W.Frag.In.keeps hK k, c, l⟩
theorem obsM_eq {n : Nat} {fa : List He.Fa} {fn : List He.DefD} {fx : List Fx} {g : Addr → Option Obj} {s : Shared} (h : ∀ a, g a = s.heap.get? a) : obsM n fa fn fx g = (hookM n fa fn fx).obs s := by
  rw [show g = s.heap.get? from funext h]
  rfl
/-- an exception class: what a raise and a clause want of it -/
structure ExcK (K : PySem.W.Frag) (mg : Str → Option Value) (x : Str) : Prop where
  is : ExcC K (He.ga K x)
  ex : PySem.W.excIn K (He.ga K x) He.veBase "ValueError.__new__" = true
  kp : PySem.W.keepIn K (.ref (He.ga K x)) = true
  sub : PySem.W.subIn K (.ref (He.ga K x)) (.type "BaseException") = some true
  ty : PySem.W.typeIn K (.ref (He.ga K x)) = some (.type "type")
  mg : mg x = some (.ref (He.ga K x))
end DL

/-! DL19: other resources, options, defs that hand back a list of the caller's own. -/
namespace DL
open PySem PySem.Spec L2
open PyProof.Rows hiding St
open PySem.W (Datum DatumOrd Tup T3 Holds HoldAll EachIs SomeDatum)
section
variable {X : Cx} {W W' : Res} {ρ : Ro} {e : Expr} {s : Sl} {b : Bool} {ds : List PyData}
theorem de_res (w : ∀ G H, Same G H → W.p G H → W'.p G H) (h : DE X W' e ρ s) : DE X W e ρ s := pe_imp h fun σ H Q ⟨G, c, k⟩ => ⟨G, ⟨c.s, w G H c.s c.w, c.e⟩, k⟩
theorem dt_res (w : ∀ G H, Same G H → W.p G H → W'.p G H) (h : DT X W' e ρ b) : DT X W e ρ b := pt_imp h fun σ H Q ⟨G, c, k⟩ => ⟨G, ⟨c.s, w G H c.s c.w, c.e⟩, k⟩
section
variable {α : Type} [DecidableEq α] [Datum α] [SomeDatum α] [Inhabited α]
def oD (o : Option α) : α := o.getD default
theorem te_oD {o : Option α} (h : DE X W e ρ (En o)) (n : o ≠ none) : DE X W e ρ (En (oD o)) := by
  cases o with
  | none => exact absurd rfl n
  | some a => exact h
end
end
/-! a new list, the caller's own -/
def SpN (R : List Sl → Res → List PyData → Prop) : Sp := fun vs H Q _ => ∃ G ss W ds, Same G H ∧ W.p G H ∧ RepL G vs ss ∧ R ss W ds ∧ ∀ p xs G' H', Gw G H G' H' → H p = none → G' p = none → H' p = some (.lst xs) → RpAll G' xs ds → Q (.ref p) H'
section
variable {P : Program} {w : World} {K : PySem.W.Frag} {mg : Str → Option Value} {base : Heap}
abbrev rtN (G0 H0 : Hp) (ds : List PyData) : VK := fun v H' => ∃ p xs G', v = .ref p ∧ Gw G0 H0 G' H' ∧ H0 p = none ∧ G' p = none ∧ H' p = some (.lst xs) ∧ RpAll G' xs ds
theorem fn_n {x qual : Str} {params : Arguments} {body : List Stmt} {scope : Scope} {dvs : List V} {kws : List (Str × V)} {f : Addr} {fd : FuncData} {N ps : List Str} {k : Nat} {R : List Sl → Res → List PyData → Prop} (F : FunD K x qual params body scope dvs kws f fd) (S : FnScope N ps scope)
    (len : ∀ ss W r, R ss W r → ss.length = ps.length)
    (hb : ∀ (cdv : Value) (A : Around) (outer : List Env) (s : Shared) (G0 H0 : Hp) (E : XK) ss W r, Room k (A.deeper (envOfC qual scope s.heap.objs.size f cdv)) → R ss W r →
      DSs (cxOf L2.CX0 P w K mg base N qual scope f cdv A outer s H0 E).nox body (At G0 H0 G0 W (startR N ss)) { nx := fun _ _ => False, rt := rtN G0 H0 r }) : FnOk P w K mg base L2.CX0 (k + 1) f fd ps (SpN R) := by
  refine FunD.ok F S (fun vs H Q E ⟨G, ss, W, r, _, _, h, hR, _⟩ => by rw [h.length]; exact len _ _ _ hR) fun cdv A outer s H vs Q E hr ⟨G, ss, W, r, hs, hw, h, hR, k⟩ => ?_
  refine ⟨tB (cxOf L2.CX0 P w K mg base N qual scope f cdv A outer s H E) body, ⟨fun pins s2 σ2 H2 D2 I2 ⟨P2, h2, p2⟩ => h2.run pins s2 σ2 H2 I2 p2⟩, ?_⟩
  have d := hb cdv A outer s G H E ss W r hr hR
  refine ⟨At G H G W (startR N ss), ⟨fun pins s2 σ2 H2 I2 p2 => ?_⟩, G, .refl hs, Same.refl _, hs, hw, env_start h⟩
  refine wpAny_mono (d.run pins s2 σ2 H2 (I2.wish _) p2) (fun fl s3 q => ?_) fun _ _ z => False.elim z
  have q' := q.unwish
  cases fl with
  | next =>
    obtain ⟨_, _, _, z⟩ := q'
    exact z.elim
  | ret u =>
    obtain ⟨v3, σ3, H3, I3, rl, p, xs, G3, rfl, g3, hp, gp, hh, hx⟩ := q'
    exact ⟨.ref p, σ3, H3, I3, rl, k p xs G3 H3 g3 hp gp hh hx⟩
  | brk => exact q'
  | cont => exact q'
def FnN (P : Program) (w : World) (K : PySem.W.Frag) (mg : Str → Option Value) (base : Heap) (k : Nat) (x : Str) (ps : List Str) (R : List Sl → Res → List PyData → Prop) : Prop :=
  ∃ f fd, mg x = some (.ref f) ∧ PySem.W.keepIn K (.ref f) = true ∧ Binds K fd ps [] ∧ FnOk P w K mg base L2.CX0 k f fd ps (SpN R)
def MtN (P : Program) (w : World) (K : PySem.W.Frag) (mg : Str → Option Value) (base : Heap) (k : Nat) (C : Addr) (m : Str) (ps : List Str) (R : List Sl → Res → List PyData → Prop) : Prop :=
  ∃ f fd, Meth K C m f ∧ Binds K fd ps [] ∧ FnOk P w K mg base L2.CX0 k f fd ps (SpN R)
end
section
variable {X : Cx} {G0 H0 G1 : Hp} {W : Res} {ρ : Ro} {D : Ends} {pos : Pos} {e : Expr} {rest : List Stmt} {ds : List PyData}
theorem d_retN (he : DN X W e ρ ds) (k : ∀ v H', rtN G0 H0 ds v H' → D.rt v H') : DSs X (.Return (some e) pos :: rest) (At G0 H0 G1 W ρ) D :=
  d_cons (M := fun _ _ => False) (dst_of (ps_ret he) fun σ H ⟨G, g, q, c⟩ => ⟨G, c, fun p xs G' H' g' hp gp hh hx => k _ _ ⟨p, xs, G', rfl, g.trans g', g.h.free hp, gp, hh, hx⟩⟩) ⟨fun _ _ _ _ _ z => z.elim⟩
end
section
variable {S α ζ : Type} [DecidableEq α] [Datum α] [DecidableEq ζ] [Datum ζ] {OR : Addr → S → Res}
def N0 (OR : Addr → S → Res) (pre : S → Prop) (f : S → List ζ) : List Sl → Res → List PyData → Prop := fun ss W r => ∃ p s, ss = [.v (.ref p)] ∧ W = OR p s ∧ pre s ∧ r = (f s).map Datum.toD
def N1 (OR : Addr → S → Res) (pre : S → α → Prop) (f : S → α → List ζ) : List Sl → Res → List PyData → Prop := fun ss W r => ∃ p s a, ss = [.v (.ref p), En a] ∧ W = OR p s ∧ pre s a ∧ r = (f s a).map Datum.toD
theorem N0.len {pre : S → Prop} {f : S → List ζ} : ∀ ss W r, N0 OR pre f ss W r → ss.length = 1 := fun ss W r ⟨_, _, e, _⟩ => by rw [e]; rfl
theorem N1.len {pre : S → α → Prop} {f : S → α → List ζ} : ∀ ss W r, N1 OR pre f ss W r → ss.length = 2 := fun ss W r ⟨_, _, _, e, _⟩ => by rw [e]; rfl
variable {X : Cx} {W : Res} {ρ : Ro} {pos apos : Pos} {o ea : Expr} {k j : Nat} {m : Str} {ps : List Str} {a : α} {s : S} {p C : Addr}
theorem on0 {pl : Sem Bool} {pre : S → Prop} {f : S → List ζ} (F : MtN X.prog X.w X.K X.mg X.base j C m ps (N0 OR pre f)) (cl : Cls X.K C) (iso : IsO OR C m) (hr : Room k X.A) (ho : DE X W o ρ (.v (.ref p))) (hW : ∀ G H, Same G H → W.p G H → (OR p s).p G H) (hp : pre s) (hj : j ≤ k := by decide)
    (ht : eval (.Call (.Attribute o m apos) [] [] pos) X.env = (do
      let ov ← eval o X.env
      standAt apos.atName
      let (f, first) ← holding [ov] (getMethod ov m pl)
      callWith pos f first (backTo pos (starEach [] X.env)) (backToKw pos (keywordEach [] X.env))) := by rfl) : TN X W (.Call (.Attribute o m apos) [] [] pos) ρ (f s) := by
  obtain ⟨f, fd, h1, h3, h4⟩ := F
  exact pe_imp (pe_meth0 (pl := pl) (E := E0) ho cl h1 h4 (hr.mono hj) h3 .nil L2.pass0 ht) fun σ H Q ⟨G, c, q⟩ => ⟨G, c, fun v G1 H1 g1 r1 => by
    have ev : v = .ref p := r1
    subst ev
    have c1 := c.step g1
    obtain ⟨dx, fs, h5, h6⟩ := iso p s G1 H1 (hW G1 H1 c1.s c1.w)
    exact ⟨p, dx, fs, rfl, h5, h6, G1, [.v (.ref p)], OR p s, _, c1.s, hW _ _ c1.s c1.w, .cons rfl .nil, ⟨p, s, rfl, rfl, hp, rfl⟩, fun p2 xs G' H' g' hp2 gp hh hx => q p2 xs G' H' (g1.trans g') (g1.h.free hp2) gp hh hx⟩⟩
theorem on1 {pl : Sem Bool} {pre : S → α → Prop} {f : S → α → List ζ} (F : MtN X.prog X.w X.K X.mg X.base j C m ps (N1 OR pre f)) (cl : Cls X.K C) (iso : IsO OR C m) (hr : Room k X.A) (ho : DE X W o ρ (.v (.ref p))) (hW : ∀ G H, Same G H → W.p G H → (OR p s).p G H) (h1 : DE X W ea ρ (En a)) (hp : pre s a) (hj : j ≤ k := by decide)
    (sa : SAs X ea [] pos := by exact ⟨rfl, rfl⟩)
    (ht : eval (.Call (.Attribute o m apos) [ea] [] pos) X.env = (do
      let ov ← eval o X.env
      standAt apos.atName
      let (f, first) ← holding [ov] (getMethod ov m pl)
      callWith pos f first (backTo pos (starEach [ea] X.env)) (backToKw pos (keywordEach [] X.env))) := by rfl) : TN X W (.Call (.Attribute o m apos) [ea] [] pos) ρ (f s a) := by
  obtain ⟨f, fd, hm, h3, h4⟩ := F
  exact pe_imp (pe_meth (pl := pl) (E := E0) ho cl hm h4 (hr.mono hj) h3 .nil L2.pass0 (da_cons h1 da_nil sa.he) sa.he sa.hpl ht) fun σ H Q ⟨G, c, q⟩ => ⟨G, c, fun v G1 H1 g1 r1 => by
    have ev : v = .ref p := r1
    subst ev
    have c1 := c.step g1
    obtain ⟨dx, fs, h5, h6⟩ := iso p s G1 H1 (hW G1 H1 c1.s c1.w)
    exact ⟨p, dx, fs, rfl, h5, h6, G1, c1, fun vs G2 H2 g2 r2 => by
      show SpN _ (V.ref p :: (vs ++ [])) H2 Q _
      rw [List.append_nil]
      have c2 := c1.step g2
      exact ⟨G2, .v (.ref p) :: [En a], OR p s, _, c2.s, hW _ _ c2.s c2.w, .cons rfl r2, ⟨p, s, a, rfl, rfl, hp, rfl⟩, fun p2 xs G' H' g' hp2 gp hh hx => q p2 xs G' H' ((g1.trans g2).trans g') ((g1.trans g2).h.free hp2) gp hh hx⟩⟩⟩
end
section
variable {P : Program} {w : World} {K : PySem.W.Frag} {mg : Str → Option Value} {base : Heap} {k : Nat} {C : Addr} {m q : Str} {st : Stmt} {ps : List Str} {R : List Sl → Res → List PyData → Prop}
theorem mtn_of (D : DefM K C m q st) (b : BindE m q st ps) (h : ∀ f fd, FnP K m q st f fd → FnOk P w K mg base L2.CX0 k f fd ps (SpN R)) : MtN P w K mg base k C m ps R := by
  obtain ⟨f, fd, F, hm⟩ := D
  exact ⟨f, fd, hm, F.bindsN b, h f fd F⟩
end
theorem frm_exc {C a p : Addr} (h : a ≠ p) : Frm (ExcR C a) p := fun G H o s g ⟨h1, h2⟩ => ⟨h1, by rw [upd_ne h]; exact h2⟩
theorem frz_exc {C a p : Addr} (h : a ≠ p) : Frz (ExcR C a) p := fun G H o s hp g ⟨h1, h2⟩ => ⟨by rw [upd_ne h]; exact h1, h2⟩
section
variable {X : Cx} {W : Res} {ρ : Ro} {pos : Pos} {c0 a0 b0 : Expr} {s : Sl}
theorem te_ifT (hc : DT X W c0 ρ true) (ha : DE X W a0 ρ s) : DE X W (.IfExp c0 a0 b0 pos) ρ s := de_if hc (fun _ => ha) (fun h => by cases h)
theorem te_ifF (hc : DT X W c0 ρ false) (hb : DE X W b0 ρ s) : DE X W (.IfExp c0 a0 b0 pos) ρ s := de_if hc (fun h => by cases h) (fun _ => hb)
end
end DL

/-! DL20: xs[::-1], xs[::2]. -/
namespace DL
open PySem PySem.Spec L2
open PyProof.Rows hiding St
open PySem.W (Datum DatumOrd Tup T3 Holds HoldAll EachIs SomeDatum)
section
variable {X : Cx} {W : Res} {ρ : Ro} {pos p1 p2 p3 : Pos} {a : Expr} {k : Nat}
theorem tn_rev {α : Type} [DecidableEq α] [Datum α] {xs : List α} (ha : TS X W a ρ xs) : TN X W (.Subscript a (.Slice none none (some (.UnaryOp .USub (.Constant (.int 1) k p1) p2)) p3) pos) ρ xs.reverse :=
  pe_imp (pe_revL ha) fun σ H Q ⟨G, c, q⟩ => ⟨G, c, fun p xs2 G1 H1 g1 h1 r1 => ⟨p, xs2, rfl, .inl h1, fun d hd => by
    have c1 := c.step g1
    refine q d xs2.reverse G1 _ (g1.trans (.heap c1.s (same_upd hd))) (g1.h.free hd) (c1.s.free hd) upd_same ?_
    rw [List.map_reverse]
    exact r1.reverse⟩⟩
end
/-- every second item, from the first one on -/
def st2 {α : Type} (xs : List α) : List α := ((List.range ((xs.length + 1) / 2)).map fun i => 2 * i).filterMap fun i => xs[i]?
theorem st2_map {α β : Type} (f : α → β) (xs : List α) : st2 (xs.map f) = (st2 xs).map f := by
  unfold st2
  rw [List.length_map, List.map_filterMap]
  congr 1
  funext i
  rw [List.getElem?_map]
theorem filt_paired {α β γ : Type} {R : β → γ → Prop} {f : α → Option β} {g : α → Option γ} {P : List β → List γ → Prop} (nil : P [] []) (cons : ∀ {x y xs ys}, R x y → P xs ys → P (x :: xs) (y :: ys)) : ∀ l : List α, (∀ i ∈ l, (f i = none ∧ g i = none) ∨ ∃ x y, f i = some x ∧ g i = some y ∧ R x y) → P (l.filterMap f) (l.filterMap g)
  | [], _ => nil
  | i :: l, h => by
    have ih := filt_paired (R := R) (f := f) (g := g) nil cons l fun j hj => h j (List.mem_cons_of_mem _ hj)
    rcases h i List.mem_cons_self with ⟨e1, e2⟩ | ⟨x, y, e1, e2, r⟩
    · rw [List.filterMap_cons_none e1, List.filterMap_cons_none e2]
      exact ih
    · rw [List.filterMap_cons_some e1, List.filterMap_cons_some e2]
      exact cons r ih
theorem RpAll.st2 {G : Hp} {vs : List V} {ds : List PyData} (h : RpAll G vs ds) : RpAll G (DL.st2 vs) (DL.st2 ds) := by
  unfold DL.st2
  rw [h.length]
  refine filt_paired (R := fun v d => Rp G v d) .nil (fun r t => .cons r t) _ fun i _ => ?_
  cases e : ds[i]? with
  | none =>
    left
    refine ⟨?_, rfl⟩
    rw [List.getElem?_eq_none_iff] at e ⊢
    rw [h.length]
    exact e
  | some d =>
    right
    obtain ⟨v, h1, h2⟩ := h.get e
    exact ⟨v, d, h1, rfl, h2⟩
theorem valsSt2 {vs : List V} {us : List Value} (h : Vals vs us) : Vals (DL.st2 vs) (DL.st2 us) := by
  unfold DL.st2
  rw [h.length]
  refine filt_paired (R := fun v u => RelV v u) .nil (fun r t => .cons r t) _ fun i _ => ?_
  cases e : vs[i]? with
  | none =>
    left
    refine ⟨rfl, ?_⟩
    rw [List.getElem?_eq_none_iff] at e ⊢
    rw [← h.length]
    exact e
  | some v =>
    right
    obtain ⟨u, h1, h2⟩ := h.get e
    exact ⟨v, u, rfl, h1, h2⟩
theorem pick2 (items : Array Value) : slicePick items none none (some 2) = (st2 items.toList).toArray := by
  unfold slicePick
  have hb : sliceBounds none none (some 2) items.size = (0, (items.size : Int), 2) := by
    first
    | rfl
    | simp [sliceBounds]
  rw [hb]
  show ((sliceRange 0 (items.size : Int) 2).filterMap (items[·]?)).toArray = _
  have hr : sliceRange 0 (items.size : Int) 2 = (List.range ((items.size + 1) / 2)).map fun i => 2 * i := by
    unfold sliceRange
    dsimp only
    rw [if_pos (by decide)]
    by_cases h : (0 : Int) < (items.size : Int)
    · rw [if_pos h]
      have e : (((items.size : Int) - 0 + 2 - 1) / 2).toNat = (items.size + 1) / 2 := by omega
      rw [e]
      exact List.map_congr_left fun i _ => by omega
    · rw [if_neg h]
      have e : items.size = 0 := by omega
      rw [e]
      rfl
  rw [hr]
  unfold st2
  rw [Array.length_toList]
  congr 2
  funext i
  rw [Array.getElem?_toList]
section
variable {X : Cx}
def tStep2 (K : PySem.W.Frag) (te : TE) : TE := fun σ H Q => te σ H fun x H1 => ∃ a xs, x = .ref a ∧ SqL K H1 a xs ∧ ∀ p, H1 p = none → Q (.ref p) (upd H1 p (.lst (st2 xs)))
theorem st2_len {α : Type} (xs : List α) : (st2 xs).length ≤ xs.length + 1 := by
  unfold st2
  refine Nat.le_trans (List.length_filterMap_le _ _) ?_
  rw [List.length_map, List.length_range]
  omega
theorem pe_step2 {e : Expr} {te : TE} {k : Nat} {p1 p3 pos : Pos} (he : PE X e te) : PE X (.Subscript e (.Slice none none (some (.Constant (.int 2) k p1)) p3) pos) (tStep2 X.K te) := by
  refine ⟨fun pins q0 σ H Q I0 wish => Subscript_ (thn (he.run pins q0 σ H _ I0 wish) fun v q1 first => ?_)⟩
  obtain ⟨x, HA, IA, rx, l, xs, rfl, isL, q⟩ := first
  cases rx
  have two : PO X (some (.Constant (.int 2) k p1)) (tPart (tC (.int 2))) := po_some pe_int
  refine wpAny_Slice (thn (po_none.run pins q1 σ HA (fun o HB => o = none ∧ HB = HA) IA ⟨rfl, rfl⟩) fun vl q2 z1 => ?_)
  obtain ⟨lo, HB, IB, isLo, rfl, rfl⟩ := z1
  refine thn (po_none.run pins q2 σ HB (fun o HC => o = none ∧ HC = HB) IB ⟨rfl, rfl⟩) fun vu q3 z2 => ?_
  obtain ⟨hi, HC, IC, isHi, rfl, rfl⟩ := z2
  refine thn (two.run pins q3 σ HC (fun o HE => o = some 2 ∧ HE = HC) IC ⟨2, rfl, rfl, rfl⟩) fun vs q4 z3 => ?_
  obtain ⟨by2, HE, IE, isBy, rfl, rfl⟩ := z3
  have IS : Inv X pins σ HE { q4 with heap := q4.heap.push { cls := .type "slice", data := .fields #[vl, vu, vs] } } := IE.kept (t' := q4.toks) fun _ _ z => Heap.get?_push_of_some _ z
  obtain ⟨its, rel, there, room⟩ := IS.list isL
  have same := rel.length
  show wpAny (model X.prog X.w) X.A (subscriptTail e (.Slice none none (some (.Constant (.int 2) k p1)) p3) (.ref l) (.ref q4.heap.objs.size)) (EP X pins σ Q) X.xe _
  refine tail_any (ops := [.ref l, .ref q4.heap.objs.size]) there.isList.typeIs (PySem.slot_list_getitem.lookup) ?_ (by with_unfolding_all rfl)
  refine wpAny_getItem_list_slice there.isList (Heap.IsSliceOf.new _ vl vu vs) isLo isHi isBy (by decide) ?_ (by rw [List.size_toArray]; omega)
  rw [pick2]
  have fits : (st2 xs).length ≤ sizeLine := by
    have h1 : (st2 xs).length ≤ xs.length := by
      unfold DL.st2
      refine Nat.le_trans (List.length_filterMap_le _ _) ?_
      rw [List.length_map, List.length_range]
      omega
    omega
  exact ⟨.ref _, _, IS.laid (t' := q4.toks) (o := .lst (DL.st2 xs)) (fun _ _ z => Heap.get?_push_of_some _ z) (Nat.le_refl _) ⟨fits, _, 0, valsSt2 rel, Heap.get?_push_size _ rfl⟩, rfl, q _ (IS.hok.fresh (Nat.le_refl _))⟩
end
section
variable {X : Cx} {W : Res} {ρ : Ro} {pos p1 p3 : Pos} {a : Expr} {k : Nat}
theorem tn_st2 {α : Type} [DecidableEq α] [Datum α] {xs : List α} (ha : TS X W a ρ xs) : TN X W (.Subscript a (.Slice none none (some (.Constant (.int 2) k p1)) p3) pos) ρ (st2 xs) :=
  pe_imp (pe_step2 ha) fun σ H Q ⟨G, c, q⟩ => ⟨G, c, fun p xs2 G1 H1 g1 h1 r1 => ⟨p, xs2, rfl, .inl h1, fun d hd => by
    have c1 := c.step g1
    refine q d (st2 xs2) G1 _ (g1.trans (.heap c1.s (same_upd hd))) (g1.h.free hd) (c1.s.free hd) upd_same ?_
    rw [← st2_map]
    exact RpAll.st2 r1⟩⟩
end
end DL

/-! DL21: C(e), e itself making objects. -/
namespace DL
open PySem PySem.Spec L2
open PyProof.Rows hiding St
open PySem.W (Datum DatumOrd Tup T3 Holds HoldAll EachIs SomeDatum)
section
variable {X : Cx} {W : Res} {ρ : Ro} {pos fp : Pos} {e : Expr} {k j : Nat} {x : Str} {ps : List Str} {R : List Sl → Res → List Addr → PostT → Prop} {C : Addr} {PostE : PostT} {Pst : List Addr → Res → Sl → Addr → PostT}
theorem dx_makeD (F : MkM X.prog X.w X.K X.mg X.base j x C ps R) (hr : Room k X.A) (he : DX X W e ρ [] PostE) (hR : ∀ N1 W1 r, PostE N1 W1 r → ∀ p, ∃ W0, (∀ G H, Same G H → W1.p G H → (InsR C p).p G H → W0.p G H) ∧ R [.v (.ref p), r] ((InsR C p).and W0) [p] (Pst N1 W1 r p))
    (hP : ∀ N1 W1 r p N W2 r0, Pst N1 W1 r p N W2 r0 → r0 = .d .none) (hj : j + 1 ≤ k := by decide) (hg : Gl X x := by rfl) (hdb : (x == ("__debug__" : Str)) = false := by decide)
    (hst : starEach [e] X.env = (false, eval e X.env) :: starEach [] X.env := by rfl) (hpl : (backTo pos (starEach [] X.env)).any (·.1) = false := by rfl) :
    DX X W (.Call (.Name x fp) [e] [] pos) ρ [] (fun N W' r => ∃ p N1 W1 r1 N0 W2 r0, PostE N1 W1 r1 ∧ Pst N1 W1 r1 p N0 W2 r0 ∧ N = p :: (N1 ++ N0) ∧ W' = W1.and W2 ∧ r = .v (.ref p)) := by
  obtain ⟨f, fd, h1, h2, h3, h4⟩ := F
  refine pe_imp (pe_make h1 h4 (hr.mono hj) hg h2 h3 .nil L2.pass0 (pa_cons he pa_nil hst) hdb hst hpl) fun σ H Q ⟨G, c, hd, q⟩ => ⟨G, c, fun d hd => (by cases hd), fun N1 W1 r1 v G1 H1 hP1 hN1 g1 hw1 rv => ?_⟩
  show ∀ p dx, H1 p = none → H1 dx = none → dx ≠ p → SpM R (V.ref p :: ([v] ++ [])) (upd (upd H1 dx (.own p)) p (.ins C dx [])) (fun v H2 => v = .non ∧ Q (.ref p) H2) _
  intro p dx hp hdx hne
  rw [List.append_nil]
  rw [cut_nil] at g1
  have s2 : Same H1 (upd (upd H1 dx (.own p)) p (.ins C dx [])) := fun b u z => by
    rw [upd_ne (ne_of_none z hp), upd_ne (ne_of_none z hdx)]
    exact z
  have g2 : Gw G1 H1 G1 (upd (upd H1 dx (.own p)) p (.ins C dx [])) := .heap g1.i s2
  have gp : G1 p = none := g1.i.free hp
  have ins : (InsR C p).p G1 (upd (upd H1 dx (.own p)) p (.ins C dx [])) := ⟨gp, dx, upd_same⟩
  obtain ⟨W0, hW0, hR0⟩ := hR N1 W1 r1 hP1 p
  refine ⟨G1, [.v (.ref p), r1], (InsR C p).and W0, [p], Pst N1 W1 r1 p, g2.i, ⟨ins, hW0 _ _ g2.i (W1.mono g1.i g2 hw1) ins⟩, fun d hd => by rw [List.mem_singleton.mp hd]; exact gp, .cons rfl (.cons rv .nil), hR0, fun N W' r u G3 H3 hPn hN g3 hw r3 => ?_⟩
  have hv : Same H1 H3 := fun b u z => g3.h b u (by
    rw [cut_ne fun q => by rw [List.mem_singleton.mp q, hp] at z; cases z]
    exact s2 b u z)
  have g13 : Gw G1 H1 G3 H3 := ⟨g3.g, hv, g3.i, fun b u z n => by
    rcases g3.n b u z n with y | y
    · left
      by_cases hb : b = p
      · rw [hb]
        exact hp
      · rw [cut_ne fun q => hb (List.mem_singleton.mp q)] at y
        exact s2.free y
    · exact .inr y⟩
  refine ⟨?_, ?_⟩
  · have e := hP N1 W1 r1 p N W' r hPn
    subst e
    cases r3
    rfl
  · refine q (p :: (N1 ++ N)) (W1.and W') (.v (.ref p)) (.ref p) G3 H3 ⟨p, N1, W1, r1, N, W', r, hP1, hPn, rfl, rfl, rfl⟩ (fun a ha => ?_) (by rw [cut_nil]; exact g1.trans g13) ⟨W1.mono g1.i g13 hw1, hw⟩ rfl
    rcases List.mem_cons.mp ha with z | z
    · rw [z]
      exact g1.h.free hp
    · rcases List.mem_append.mp z with z | z
      · exact hN1 a z
      · exact g1.h.free (s2.free (hN a z))
end
theorem frc_Folded {C p : Addr} {s : FS} {ds : List Addr} (h : p ∉ ds) : Frc (FoldedR C p s) ds := frc_ins h
end DL

/-! DL22: sorted(set(list of whole numbers)); defs whose object is not the first argument. -/
namespace DL
open PySem PySem.Spec L2
open PyProof.Rows hiding St
open PySem.W (Datum DatumOrd Tup T3 Holds HoldAll EachIs SomeDatum)
section
variable {P : Program} {w : World} {A : Around} {E : Value → Shared → Prop} {s : Shared}
abbrev nSet (w : World) : Obj := { cls := .type "set", dict := none, data := .set #[] 0 (.fresh 0 0 (!w.params.followText "set-order")) }
abbrev pSet (w : World) (s : Shared) : Shared := { s with heap := s.heap.push (nSet w) }
abbrev doneS (w : World) (s : Shared) (ns : List Int) (s2 : Shared) : Prop := ∃ (hh : Heap) (t n : Nat), s2 = { s with heap := hh, toks := t } ∧ SetR w hh s.heap.objs.size (fun j => decide (j ∈ ns)) n ∧ n ≤ ns.length ∧ ∀ b u, s.heap.get? b = some u → hh.get? b = some u
/-- what set.__init__ does with a list of whole numbers -/
theorem set_init_ints {l : Addr} {its : Array Value} {ns : List Int} (calm : A.handled = none) (hl : s.heap.IsList l its) (hi : IntsAre its.toList ns) (room : ns.length + 1 < scanBound) :
    wpAny (model P w) A.in1.in1 (Builtin.«set.__init__» { pos := [Value.ref s.heap.objs.size] ++ [Value.ref l] }) (fun fin s' => match fin with
      | .done f => wants (fun r s2 => r = .none ∧ doneS w s ns s2) E (.ok f) s'
      | .again c' => c'.quiet = true ∧ codeAny (model P w) A.in1 c' (wants (fun r s2 => r = .none ∧ doneS w s ns s2) E) s') (fun e s' => wants (fun r s2 => r = .none ∧ doneS w s ns s2) E (.error e) s') (pSet w s) := by
  have sz : its.size = ns.length := (Array.length_toList (xs := its)).symm.trans (IntsAre.length hi)
  have new : (s.heap.push (nSet w)).get? s.heap.objs.size = some (nSet w) := Heap.get?_push_size _ rfl
  obtain ⟨⟨cl, di, da, sl⟩, at1, c1, k1, d1⟩ := hl
  simp only at c1 d1
  subst c1 d1
  have at2 : (s.heap.push (nSet w)).get? l = some ⟨.type "list", di, .seq its k1, sl⟩ := Heap.get?_push_of_some _ at1
  have e1 := F.sub_list_set; have e2 := F.sub_list_frozenset
  have e3 : (Value.type "list" == Value.type "dict") = false := by decide
  have l2 : (s.heap.push (nSet w)).IsList l its := ⟨_, at2, rfl, k1, rfl⟩
  have lt := Heap.lt_size at1
  have m3 : A.in1.in1.in1.handled = none := by simp [calm]
  unfold Builtin.«set.__init__» noKeywords Builtin.Frozenset.updateFrom
  generalize q : pyIter = it
  wp_walk
  subst q
  refine wpAny_pyIter_list l2 (wpAny_bind (wpAny_runValue ?_))
  have ne1 : l ≠ (s.heap.push (nSet w)).objs.size := by rw [Heap.size_push]; exact Nat.ne_of_lt (Nat.lt_succ_of_lt lt)
  have ne2 : s.heap.objs.size ∉ [(s.heap.push (nSet w)).objs.size, l] := by
    rw [Heap.size_push]; intro z
    rcases List.mem_cons.mp z with z | z
    · exact absurd z (Nat.ne_of_lt (Nat.lt_succ_self _))
    · exact absurd (List.mem_singleton.mp z) (Nat.ne_of_gt lt)
  have val : ∀ (i : Nat) (v : Value), its[i]? = some v → ∃ k t, ns[i]? = some k ∧ v = .int k t := fun i v hv => by
    have lt2 : i < ns.length := by rw [← sz]; exact (Array.getElem?_eq_some_iff.mp hv).1
    have g2 := List.getElem?_eq_getElem lt2
    obtain ⟨t, e⟩ := PyProof.Rows.IntsAre.int_at hi i v ((Array.getElem?_toList ..).trans hv)
    exact ⟨_, t, g2, by rw [e, List.getD_eq_getElem?_getD, g2]; rfl⟩
  refine set_update_ints (Walks.list m3 _ l ne1 its).toS s.heap.objs.size ne2 ns sz room val (its.size - 0) 0 _ (by omega) (Nat.zero_le _) ⟨⟨_, Heap.get?_push_size _ rfl, rfl, rfl⟩, l2.push _⟩ ⟨0, Nat.le_refl 0, ?h0⟩ ?h1
  case h0 => exact setR_new_at (Heap.get?_push_of_some _ new)
  rintro ⟨hp, g2, dr, t2, os2⟩ n mv le R
  cases mv.gens; cases mv.drawn; cases mv.os
  show wpAny _ _ _ _ _ _
  refine wpAny_pure (show wpAny _ _ (ret Value.none) _ _ _ from wpAny_pure ⟨rfl, hp, t2, n, rfl, R, by omega, fun b u e => mv.heap b u (fun z => ?_) (Heap.get?_push_of_some _ (Heap.get?_push_of_some _ e))⟩)
  have lb := Heap.lt_size e
  rw [Heap.size_push] at z
  rcases List.mem_cons.mp z with z | z
  · exact absurd z (Nat.ne_of_lt lb)
  · exact absurd (List.mem_singleton.mp z) (Nat.ne_of_lt (Nat.lt_succ_of_lt lb))
/-- set(l), l a list of whole numbers -/
theorem call_set_ints {l : Addr} {its : Array Value} {ns : List Int} {Q : Value → Shared → Prop} (calm : A.handled = none) (hl : s.heap.IsList l its) (hi : IntsAre its.toList ns) (room : ns.length + 1 < scanBound) (k : ∀ s2, doneS w s ns s2 → Q (.ref s.heap.objs.size) s2) :
    wpAny (model P w) A (call (.type "set") [.ref l]) Q E s := by
  have F1 := F.called_set.made; have F2 := F.called_set.sub; have F3 := F.called_set.notType; have F4 := F.called_set.canCreate; have F5 := F.typeCall_set_1 (.ref l)
  obtain ⟨_, _, F6⟩ := F.called_set.mro
  refine wpAny_call (codeAny_of_tree (show wpAny _ _ (callAny (.type "set") _) _ _ _ from wpAny_pure ⟨Code.quiet_builtin _ (by decide +kernel), codeAny_builtin F.entry_type_call ?_⟩))
  rw [Around.under_plain (weight_type_call_type "set" [.ref l] []) rfl]
  repeat (any_goals (first | assumption | wp_step))
  refine codeAny_mono (code_set_led1 (.ref l) (E := E) (Q₁ := fun o s1 => o = .ref s.heap.objs.size ∧ s1 = pSet w s) ⟨rfl, rfl⟩) fun r s1 q => ?_
  match r, q with
  | .error _, q => exact q
  | .ok (.ret o), q =>
    obtain ⟨rfl, rfl⟩ := q
    have ty : Shared.TypeIs (pSet w s) (.ref s.heap.objs.size) "set" := ⟨_, Heap.get?_push_size _ rfl, rfl⟩
    have I1 := F.called_set.init.lookup
    have I2 := F.called_set.init.bind (.ref s.heap.objs.size)
    repeat (any_goals (first | assumption | wp_step))
    refine codeAny_mono (codeAny_call_builtin (R := wants (fun r s2 => r = .none ∧ doneS w s ns s2) E) F.called_set.init.plain F.entry_set_init (check_set_init_1 ty (set_init_ints calm hl hi room))) fun r2 s2 q2 => ?_
    match r2, q2 with
    | .error _, q2 => exact q2
    | .ok (.ret o2), q2 =>
      obtain ⟨rfl, d⟩ := q2
      repeat (any_goals (first | assumption | wp_step))
      exact k _ d
    | .ok .next, q2 => exact q2.elim
    | .ok .brk, q2 => exact q2.elim
    | .ok .cont, q2 => exact q2.elim
  | .ok .next, q => exact q.elim
  | .ok .brk, q => exact q.elim
  | .ok .cont, q => exact q.elim
end
section
variable {X : Cx} {W : Res} {ρ : Ro} {pos fp fp2 p2 : Pos} {a : Expr} {xs : List Int} {k : Nat}
def rSetL (w : World) : List V → Hp → VK → Prop := fun vs H Q => ∃ (p : Addr) (ns : List Int), vs = [.ref p] ∧ Rd H p (.lst (ns.map V.int)) ∧ ns.length ≤ 1000 ∧ ∀ q n, H q = none → n ≤ ns.length → Q (.ref q) (upd H q (SetO w q (fun j => decide (j ∈ ns)) n))
theorem cr_setL (hc : X.calm = true) : CallR X (.type "set") (rSetL X.w) := by
  intro pins s σ H vs us Q I r h
  obtain ⟨p, ns, rfl, hd, hn, q⟩ := h
  obtain ⟨u1, rfl, rx⟩ := vals1 r
  cases rx
  obtain ⟨z, its, n, rv, hl, e⟩ := rd_list I hd
  have il : s.heap.IsList p its.toArray := ⟨_, e, rfl, n, rfl⟩
  refine call_set_ints (I.ok.hd hc) il (ints_of_vals rv) (by unfold scanBound; omega) fun s2 ⟨hh, t, m, e2, R, le, kp⟩ => ?_
  subst e2
  exact ⟨.ref _, upd H s.heap.objs.size (SetO X.w s.heap.objs.size (fun j => decide (j ∈ ns)) m), I.laid (t' := t) kp (Nat.le_refl _) (setO_new R), rfl, q _ _ (I.hok.fresh (Nat.le_refl _)) le⟩
/-- a list, each number once, rising -/
def dd : List Int → List Int
  | [] => []
  | x :: l => if x ∈ dd l then dd l else x :: dd l
theorem dd_mem {x : Int} : ∀ {l : List Int}, x ∈ dd l ↔ x ∈ l
  | [] => Iff.rfl
  | y :: l => by
    unfold dd
    by_cases h : y ∈ dd l
    · rw [if_pos h, dd_mem, List.mem_cons]
      exact ⟨.inr, fun z => z.elim (fun e => by rw [e]; exact dd_mem.mp h) id⟩
    · rw [if_neg h, List.mem_cons, List.mem_cons, dd_mem]
theorem dd_nodup : ∀ {l : List Int}, (dd l).Nodup
  | [] => List.nodup_nil
  | y :: l => by
    unfold dd
    by_cases h : y ∈ dd l
    · rw [if_pos h]
      exact dd_nodup
    · rw [if_neg h]
      exact List.nodup_cons.mpr ⟨h, dd_nodup⟩
def sset (xs : List Int) : List Int := srt (dd xs)
theorem srt_ris {l m : List Int} (hl : l.Nodup) (hm : m.Pairwise (· < ·)) (h : ∀ a, a ∈ l ↔ a ∈ m) : srt l = m := by
  have lt : ∀ a b : Int, DatumOrd.lt a b = decide (a < b) := fun _ _ => rfl
  have nd : m.Nodup := List.nodup_iff_pairwise_ne.mpr (hm.imp fun {a b} q e => by omega)
  have pm : (srt l).Perm l := List.mergeSort_perm _ _
  refine List.Perm.eq_of_pairwise (le := fun a b : Int => (!DatumOrd.lt b a) = true) (fun a b _ _ h1 h2 => ?_) ?_ ?_ (pm.trans ((List.perm_ext_iff_of_nodup hl nd).mpr h))
  · rw [lt] at h1 h2
    simp at h1 h2
    omega
  · unfold srt
    refine List.pairwise_mergeSort (fun a b c h1 h2 => ?_) (fun a b => ?_) l
    · rw [lt] at *
      simp at *
      omega
    · rw [lt, lt]
      simp
      omega
  · exact hm.imp fun {a b} q => by
      rw [lt]
      simp
      omega
theorem sset_eq {xs m : List Int} (hm : m.Pairwise (· < ·)) (h : ∀ a, a ∈ xs ↔ a ∈ m) : sset xs = m := srt_ris dd_nodup hm fun a => dd_mem.trans (h a)
theorem tn_sset (hs : X.mg "sorted" = none) (hm : X.mg "set" = none) (ha : TS X W a ρ xs) (hn : xs.length < 64) (hc : X.calm = true := by rfl) (hg : Gl X "sorted" := by rfl) (hg2 : Gl X "set" := by rfl) (sa : SA1 X a p2 := by exact ⟨rfl, rfl⟩)
    (sb : SA1 X (.Call (.Name "set" fp2) [a] [] p2) pos := by exact ⟨rfl, rfl⟩) : TN X W (.Call (.Name "sorted" fp) [.Call (.Name "set" fp2) [a] [] p2] [] pos) ρ (sset xs) :=
  pe_imp (pe_callB (cr_sortedSet hc) hg hs (by decide +kernel) (pa_cons (pe_callTy (cr_setL hc) hg2 hm (by decide +kernel) (pa_cons ha pa_nil sa.h) (he := sa.h) (hpl := sa.b)) pa_nil sb.h) (he := sb.h) (hpl := sb.b)) fun σ H Q ⟨G, c, q⟩ => ⟨G, c, fun p ys G1 H1 g1 h1 r1 => by
    have e1 : ys = xs.map V.int := rp_ints r1
    subst e1
    have c1 := c.step g1
    refine ⟨p, xs, rfl, h1, by omega, fun a n ha hn2 => ?_⟩
    have g2 : Gw G1 H1 G1 (upd H1 a (SetO X.w a (fun j => decide (j ∈ xs)) n)) := .heap c1.s (same_upd ha)
    refine ⟨a, _, n, rfl, upd_same, by omega, fun ns b ris mem len hb => ?_⟩
    have e2 : ns = sset xs := (sset_eq ris fun k => by rw [mem k, decide_eq_true_eq]).symm
    subst e2
    have c2 := c1.step g2
    exact q b _ G1 _ ((g1.trans g2).trans (.heap c2.s (same_upd hb))) ((g1.trans g2).h.free hb) (c2.s.free hb) upd_same (RpAll.ints _)⟩
end
/-! promises whose object is not the first -/
section
variable {S α β γ ζ : Type} [DecidableEq α] [Datum α] [DecidableEq β] [Datum β] [DecidableEq γ] [Datum γ] [DecidableEq ζ] [Datum ζ] {OR : Addr → S → Res}
def O2b (OR : Addr → S → Res) (pre : S → α → β → Prop) (f : S → α → β → ζ) : List Sl → Res → Sl → Prop := fun ss W r => ∃ p s a b, ss = [En a, .v (.ref p), En b] ∧ W = OR p s ∧ pre s a b ∧ r = En (f s a b)
def O3c (OR : Addr → S → Res) (pre : S → α → β → γ → Prop) (f : S → α → β → γ → ζ) : List Sl → Res → Sl → Prop := fun ss W r => ∃ p s a b c, ss = [En a, En b, .v (.ref p), En c] ∧ W = OR p s ∧ pre s a b c ∧ r = En (f s a b c)
theorem O2b.len {pre : S → α → β → Prop} {f : S → α → β → ζ} : ∀ ss W r, O2b OR pre f ss W r → ss.length = 3 := fun ss W r ⟨_, _, _, _, e, _⟩ => by rw [e]; rfl
theorem O3c.len {pre : S → α → β → γ → Prop} {f : S → α → β → γ → ζ} : ∀ ss W r, O3c OR pre f ss W r → ss.length = 4 := fun ss W r ⟨_, _, _, _, _, e, _⟩ => by rw [e]; rfl
variable {X : Cx} {W : Res} {ρ : Ro} {pos fp : Pos} {o ea eb ec : Expr} {k j : Nat} {x : Str} {ps : List Str} {a : α} {b : β} {c : γ} {s : S} {p : Addr}
theorem og2b {pre : S → α → β → Prop} {f : S → α → β → ζ} (F : FnG X.prog X.w X.K X.mg X.base j x ps (O2b OR pre f)) (hr : Room k X.A) (ho : DE X W o ρ (.v (.ref p))) (hW : ∀ G H, Same G H → W.p G H → (OR p s).p G H) (h1 : DE X W ea ρ (En a)) (h2 : DE X W eb ρ (En b)) (hp : pre s a b) (hj : j ≤ k := by decide) (hg : Gl X x := by rfl) (hdb : (x == ("__debug__" : Str)) = false := by decide)
    (sa : SAs X ea [o, eb] pos := by exact ⟨rfl, rfl⟩) (sb : SAs X o [eb] pos := by exact ⟨rfl, rfl⟩) (sc : SAs X eb [] pos := by exact ⟨rfl, rfl⟩) : DE X W (.Call (.Name x fp) [ea, o, eb] [] pos) ρ (En (f s a b)) :=
  de_call F hr (da_cons h1 (da_cons ho (da_cons h2 da_nil sc.he) sb.he) sa.he) hW ⟨p, s, a, b, rfl, rfl, hp, rfl⟩ hj hg hdb sa.he sa.hpl
theorem og3c {pre : S → α → β → γ → Prop} {f : S → α → β → γ → ζ} (F : FnG X.prog X.w X.K X.mg X.base j x ps (O3c OR pre f)) (hr : Room k X.A) (ho : DE X W o ρ (.v (.ref p))) (hW : ∀ G H, Same G H → W.p G H → (OR p s).p G H) (h1 : DE X W ea ρ (En a)) (h2 : DE X W eb ρ (En b)) (h3 : DE X W ec ρ (En c)) (hp : pre s a b c) (hj : j ≤ k := by decide) (hg : Gl X x := by rfl) (hdb : (x == ("__debug__" : Str)) = false := by decide)
    (sa : SAs X ea [eb, o, ec] pos := by exact ⟨rfl, rfl⟩) (sb : SAs X eb [o, ec] pos := by exact ⟨rfl, rfl⟩) (sc : SAs X o [ec] pos := by exact ⟨rfl, rfl⟩) (sd : SAs X ec [] pos := by exact ⟨rfl, rfl⟩) : DE X W (.Call (.Name x fp) [ea, eb, o, ec] [] pos) ρ (En (f s a b c)) :=
  de_call F hr (da_cons h1 (da_cons h2 (da_cons ho (da_cons h3 da_nil sd.he) sc.he) sb.he) sa.he) hW ⟨p, s, a, b, c, rfl, rfl, hp, rfl⟩ hj hg hdb sa.he sa.hpl
end
end DL

/-! DL23: things of any kind: {} that stays, promises over any data, making that raises. -/
namespace DL
open PySem PySem.Spec L2
open PyProof.Rows hiding St
open PySem.W (Datum DatumOrd Tup T3 Holds HoldAll EachIs SomeDatum)
instance : Inhabited PyData := ⟨.none⟩
section
variable {X : Cx} {We : WX} {W W0 : Res} {ρ : Ro} {pos fp apos p2 : Pos} {e o a b : Expr} {es : List Expr} {ss : List Sl} {c : Value} {k j : Nat} {x m : Str} {ps : List Str} {C p : Addr} {s : Sl}
/-- {} that is never changed -/
theorem de_dic0 : DE X W (.Dict [] [] pos) ρ (.d (.dict [])) := pe_imp pe_dnewT fun σ H Q ⟨G, c, k⟩ => fun p hp =>
  k (.ref p) (upd G p (.dT [])) (upd H p (.dT [])) ((Gw.heap c.s (same_upd hp)).share hp upd_same (c.s.free hp)) (.dic upd_same)
/-- e[i], e a list of any things -/
theorem de_ixP {ds : List PyData} {i : Int} (ha : DS X W a ρ ds) (hb : DE X W b ρ (En i)) (h : -(ds.length : Int) ≤ i ∧ i < ds.length) (hs : PlainIx b := by intro _ _; rfl) : DE X W (.Subscript a b pos) ρ (.d (ixD ds i)) := de_ixL ha hb (atI_ixD h) hs
/-- is a whole number, no truth value, and between -/
def amongD (d : PyData) (l m : Int) : Bool := match d with
  | .int i => decide (l ≤ i) && decide (i ≤ m)
  | _ => false
theorem amongD_true {d : PyData} {l m : Int} (h : amongD d l m = true) : ∃ i : Int, d = .int i ∧ l ≤ i ∧ i ≤ m := by
  cases d with
  | int i =>
    unfold amongD at h
    simp only [Bool.and_eq_true, decide_eq_true_eq] at h
    exact ⟨i, rfl, h⟩
  | _ => cases h
theorem amongD_int {i l m : Int} : amongD (.int i) l m = (decide (l ≤ i) && decide (i ≤ m)) := rfl
def RA3 (f : PyData → Int → Int → Bool) : List Sl → Res → Sl → Prop := fun ss W r => ∃ d l m, ss = [.d d, En l, En m] ∧ r = En (f d l m)
theorem RA3.len {f : PyData → Int → Int → Bool} : ∀ ss W r, RA3 f ss W r → ss.length = 3 := fun ss W r ⟨_, _, _, e, _⟩ => by rw [e]; rfl
theorem callA3 {f : PyData → Int → Int → Bool} {ea eb ec : Expr} {d : PyData} {l n : Int} (F : FnG X.prog X.w X.K X.mg X.base j x ps (RA3 f)) (hr : Room k X.A) (h1 : DE X W ea ρ (.d d)) (h2 : DE X W eb ρ (En l)) (h3 : DE X W ec ρ (En n)) (hj : j ≤ k := by decide) (hg : Gl X x := by rfl) (hdb : (x == ("__debug__" : Str)) = false := by decide)
    (sa : SAs X ea [eb, ec] pos := by exact ⟨rfl, rfl⟩) (sb : SAs X eb [ec] pos := by exact ⟨rfl, rfl⟩) (sc : SAs X ec [] pos := by exact ⟨rfl, rfl⟩) : DE X W (.Call (.Name x fp) [ea, eb, ec] [] pos) ρ (En (f d l n)) :=
  de_call (W0 := R0) F hr (da_cons h1 (da_cons h2 (da_cons h3 da_nil sc.he) sb.he) sa.he) (fun _ _ _ _ => trivial) ⟨d, l, n, rfl, rfl⟩ hj hg hdb sa.he sa.hpl
def RA1 {ζ : Type} [DecidableEq ζ] [Datum ζ] (pre : PyData → Prop) (f : PyData → ζ) : List Sl → Res → Sl → Prop := fun ss W r => ∃ d, ss = [.d d] ∧ pre d ∧ r = En (f d)
theorem RA1.len {ζ : Type} [DecidableEq ζ] [Datum ζ] {pre : PyData → Prop} {f : PyData → ζ} : ∀ ss W r, RA1 pre f ss W r → ss.length = 1 := fun ss W r ⟨_, e, _⟩ => by rw [e]; rfl
theorem callA1 {ζ : Type} [DecidableEq ζ] [Datum ζ] {pre : PyData → Prop} {f : PyData → ζ} {ea : Expr} {d : PyData} (F : FnG X.prog X.w X.K X.mg X.base j x ps (RA1 pre f)) (hr : Room k X.A) (h1 : DE X W ea ρ (.d d)) (hp : pre d) (hj : j ≤ k := by decide) (hg : Gl X x := by rfl) (hdb : (x == ("__debug__" : Str)) = false := by decide)
    (sa : SAs X ea [] pos := by exact ⟨rfl, rfl⟩) : DE X W (.Call (.Name x fp) [ea] [] pos) ρ (En (f d)) :=
  de_call (W0 := R0) F hr (da_cons h1 da_nil sa.he) (fun _ _ _ _ => trivial) ⟨d, rfl, hp, rfl⟩ hj hg hdb sa.he sa.hpl
/-! methods that raise -/
variable {S : Type}
def E1 (OR : Addr → S → Res) (cond : S → PyData → Prop) (D : Addr) : List Sl → Res → Value → Prop := fun ss W c => ∃ p s d, ss = [.v (.ref p), .d d] ∧ W = OR p s ∧ cond s d ∧ c = .ref D
def E2 (OR : Addr → S → Res) (cond : S → PyData → PyData → Prop) (D : Addr) : List Sl → Res → Value → Prop := fun ss W c => ∃ p s d1 d2, ss = [.v (.ref p), .d d1, .d d2] ∧ W = OR p s ∧ cond s d1 d2 ∧ c = .ref D
theorem E1.len {OR : Addr → S → Res} {cond : S → PyData → Prop} {D : Addr} : ∀ ss W c, E1 OR cond D ss W c → ss.length = 2 := fun ss W c ⟨_, _, _, e, _⟩ => by rw [e]; rfl
theorem E2.len {OR : Addr → S → Res} {cond : S → PyData → PyData → Prop} {D : Addr} : ∀ ss W c, E2 OR cond D ss W c → ss.length = 3 := fun ss W c ⟨_, _, _, _, e, _⟩ => by rw [e]; rfl
theorem rx_m1 {pl : Sem Bool} {OR : Addr → S → Res} {cond : S → PyData → Prop} {D : Addr} {s : S} {d : PyData} {ea : Expr} (F : MtX X.prog X.w X.K X.mg X.base j C m ps (E1 OR cond D)) (cl : Cls X.K C) (iso : IsO OR C m) (tk : Takes X We) (hr : Room k X.A) (ho : DE X W o ρ (.v (.ref p))) (hW : ∀ G H, Same G H → W.p G H → (OR p s).p G H) (h1 : DE X W ea ρ (.d d)) (hc : cond s d) (hj : j ≤ k := by decide)
    (sa : SAs X ea [] pos := by exact ⟨rfl, rfl⟩)
    (ht : eval (.Call (.Attribute o m apos) [ea] [] pos) X.env = (do
      let ov ← eval o X.env
      standAt apos.atName
      let (f, first) ← holding [ov] (getMethod ov m pl)
      callWith pos f first (backTo pos (starEach [ea] X.env)) (backToKw pos (keywordEach [] X.env))) := by rfl) : RX X We W (.Call (.Attribute o m apos) [ea] [] pos) ρ (.ref D) :=
  rx_meth (pl := pl) F cl tk hr ho (fun G H q w => iso p s G H (hW G H q w)) (da_cons h1 da_nil sa.he) hW ⟨p, s, d, rfl, rfl, hc, rfl⟩ hj sa.he sa.hpl ht
theorem rx_m2 {pl : Sem Bool} {OR : Addr → S → Res} {cond : S → PyData → PyData → Prop} {D : Addr} {s : S} {d1 d2 : PyData} {ea eb : Expr} (F : MtX X.prog X.w X.K X.mg X.base j C m ps (E2 OR cond D)) (cl : Cls X.K C) (iso : IsO OR C m) (tk : Takes X We) (hr : Room k X.A) (ho : DE X W o ρ (.v (.ref p))) (hW : ∀ G H, Same G H → W.p G H → (OR p s).p G H) (h1 : DE X W ea ρ (.d d1)) (h2 : DE X W eb ρ (.d d2)) (hc : cond s d1 d2) (hj : j ≤ k := by decide)
    (sa : SAs X ea [eb] pos := by exact ⟨rfl, rfl⟩) (sb : SAs X eb [] pos := by exact ⟨rfl, rfl⟩)
    (ht : eval (.Call (.Attribute o m apos) [ea, eb] [] pos) X.env = (do
      let ov ← eval o X.env
      standAt apos.atName
      let (f, first) ← holding [ov] (getMethod ov m pl)
      callWith pos f first (backTo pos (starEach [ea, eb] X.env)) (backToKw pos (keywordEach [] X.env))) := by rfl) : RX X We W (.Call (.Attribute o m apos) [ea, eb] [] pos) ρ (.ref D) :=
  rx_meth (pl := pl) F cl tk hr ho (fun G H q w => iso p s G H (hW G H q w)) (da_cons h1 (da_cons h2 da_nil sb.he) sa.he) hW ⟨p, s, d1, d2, rfl, rfl, hc, rfl⟩ hj sa.he sa.hpl ht
/-- a in o, a raising -/
theorem rx_in {v : Sl} (hr : Room k X.A) (ha : RX X We W a ρ c) (ho : DE X W o ρ v) (hm : behindInMarks .In o = false := by rfl) : RX X We W (.Compare a [.In] [o] pos) ρ c := pe_imp (pe_cmp (pc_din (hu_of hr) ha ho) hm) fun σ H Q h => h
/-! making that raises -/
def MkR (P : Program) (w : World) (K : PySem.W.Frag) (mg : Str → Option Value) (base : Heap) (k : Nat) (x : Str) (C : Addr) (ps : List Str) (R : List Sl → Res → Value → Prop) : Prop :=
  ∃ f fd, Mk K C f ∧ mg x = some (.ref C) ∧ Binds K fd ps [] ∧ FnOk P w K mg base (L2.CX P w) k f fd ps (SpR R)
theorem rx_make {R : List Sl → Res → Value → Prop} (F : MkR X.prog X.w X.K X.mg X.base j x C ps R) (tk : Takes X We) (hr : Room k X.A) (ha : DA X W (e :: es) ρ ss) (hW : ∀ G H, Same G H → W.p G H → W0.p G H) (hR : ∀ p, R (.v (.ref p) :: ss) ((InsR C p).and W0) c) (hj : j + 1 ≤ k := by decide) (hg : Gl X x := by rfl) (hdb : (x == ("__debug__" : Str)) = false := by decide)
    (he : starEach (e :: es) X.env = (false, eval e X.env) :: starEach es X.env := by rfl) (hpl : (backTo pos (starEach es X.env)).any (·.1) = false := by rfl) : RX X We W (.Call (.Name x fp) (e :: es) [] pos) ρ c := by
  obtain ⟨f, fd, M, hmg, hb, F⟩ := F
  refine ⟨fun pins st σ H Q I h => ?_⟩
  obtain ⟨G, cx, wish⟩ := h
  refine wpAny_Call_Name_kw (ld_glob I hg hmg ?_ hdb)
  have arg := ha.run pos pins st σ H (fun vs H1 => ∃ G1, Gw G H G1 H1 ∧ RepL G1 vs ss) I ⟨G, cx, fun vs G1 H1 g1 r1 => ⟨G1, g1, r1⟩⟩
  refine PySem.W.callWith_K (h₀ := X.base) I.ok.mod.kin M.kp (thn arg fun us s1 ⟨vs, H1, I1, rl, G1, g1, r1⟩ => ⟨I1.kIn, ?_⟩) he hpl
  have n1 : H1 (s1.heap.objs.size + 1) = none := I1.hok.fresh (Nat.le_succ _)
  have n2 : H1 s1.heap.objs.size = none := I1.hok.fresh (Nat.le_refl _)
  have n3 : s1.heap.objs.size ≠ s1.heap.objs.size + 1 := Nat.ne_of_lt (Nat.lt_succ_self _)
  have IM := Inv.made (C := C) I1
  have c1 := cx.step g1
  have gm : Gw G1 H1 G1 (upd (upd H1 s1.heap.objs.size (.own (s1.heap.objs.size + 1))) (s1.heap.objs.size + 1) (.ins C s1.heap.objs.size [])) := .heap c1.s ((same_upd n2).trans (same_upd (by rw [upd_ne (Ne.symm n3)]; exact n1)))
  have c2 := c1.step gm
  have sp : SpR R (.ref (s1.heap.objs.size + 1) :: vs) (upd (upd H1 s1.heap.objs.size (.own (s1.heap.objs.size + 1))) (s1.heap.objs.size + 1) (.ins C s1.heap.objs.size [])) (fun _ _ => False) (WE We σ) := by
    refine ⟨G1, .v (.ref (s1.heap.objs.size + 1)) :: ss, (InsR C (s1.heap.objs.size + 1)).and W0, c, c2.s, ⟨⟨c1.s.free n1, s1.heap.objs.size, upd_same⟩, hW _ _ c2.s c2.w⟩, .cons rfl r1, hR _, fun G' H' g' => wish G' H' ((g1.trans gm).trans g')⟩
  have rv : Vals (V.ref (s1.heap.objs.size + 1) :: vs) (Value.ref (s1.heap.objs.size + 1) :: us) := .cons rfl rl
  have len : (Value.ref (s1.heap.objs.size + 1) :: us).length = ps.length := by rw [← rv.length]; exact F.len _ _ _ _ sp
  have bnd := hb _ (Value.ref (s1.heap.objs.size + 1) :: us) IM.kIn (by rw [List.append_nil]; exact len)
  rw [List.append_nil] at bnd
  have room : Room (j + 1) X.A := hr.mono hj
  refine wpAny_call (make_map (f := f) I1.kIn M.makes M.init (beq_iff_eq.mp M.fn) (codeAny_mono (F.run _ X.stack _ _ ⟨Value.ref (s1.heap.objs.size + 1) :: us, []⟩ (Value.ref (s1.heap.objs.size + 1) :: us) _ _ _ (room.make C us []) (IM.env0.make C us []) bnd rv sp) fun r s2 hq => ?_))
  match r, hq with
  | .error ee, hq => exact passAt tk σ pins _ _ ee s2 IM hq
  | .ok (.ret u), hq =>
    obtain ⟨_, _, _, _, z⟩ := IM.after hq
    exact z.elim
  | .ok .next, hq => exact False.elim hq
  | .ok .brk, hq => exact False.elim hq
  | .ok .cont, hq => exact False.elim hq
end
end DL

/-! DL24: x or y of lists, reverse, lists of lists of one's own, what changes within a test. -/
namespace DL
open PySem PySem.Spec L2
open PyProof.Rows hiding St
open PySem.W (Datum DatumOrd Tup T3 Holds HoldAll EachIs SomeDatum)
section
variable {X : Cx} {We : WX} {W W0 A : Res} {ρ : Ro} {pos p2 ap cp : Pos} {e o a b c0 : Expr} {c : Value} {k j : Nat} {p : Addr} {s : Sl} {ds : List Addr} {Post : PostT} {α : Type} [DecidableEq α] [Datum α] {xs ys : List α}
theorem tn_or (ha : TN X W a ρ xs) (hb : TN X W b ρ ys) : TN X W (.BoolOp .Or [a, b] pos) ρ (bif eqB xs [] then ys else xs) :=
  pe_imp (pe_orT ha (pe_one hb)) fun σ H Q ⟨G, cx, q⟩ => ⟨G, cx, fun p1 vs G1 H1 g1 hp gp hh hx => by
    have len : vs.length = xs.length := by rw [hx.length, List.length_map]
    refine ⟨!vs.isEmpty, .inl ⟨vs, .inl (.inl hh), rfl⟩, ?_⟩
    cases xs with
    | nil =>
      have e : vs = [] := List.length_eq_zero_iff.mp len
      subst e
      rw [eqB_true.mpr rfl] at q
      exact iteF ⟨G1, cx.step g1, fun p2 vs2 G2 H2 g2 hp2 gp2 hh2 hx2 => q p2 vs2 G2 H2 (g1.trans g2) (g1.h.free hp2) gp2 hh2 hx2⟩
    | cons x r =>
      rw [eqB_false.mpr (by intro z; cases z)] at q
      cases vs with
      | nil => cases len
      | cons v vs => exact iteT (q p1 _ G1 H1 g1 hp gp hh hx)⟩
/-! IfExp, the way known -/
theorem dx_ifT (hdH : ∀ G H, Same G H → W.p G H → ∀ d ∈ ds, ∃ o, H d = some o ∧ ∀ xs, o ≠ .tup xs) (hc : DT X W c0 ρ true) (ha : DX X W a ρ ds Post) : DX X W (.IfExp c0 a b pos) ρ ds Post :=
  pe_imp (pe_ifExp (tb := fun _ _ _ => False) hc ha ⟨fun _ _ _ _ _ _ z => z.elim⟩) fun σ H Q ⟨G, c, hd, q⟩ => ⟨G, c, fun G1 H1 g1 => iteT ⟨G1, c.step g1, fun d hd' => by
    obtain ⟨u, hu, nt⟩ := hdH G H c.s c.w d hd'
    exact g1.nosh hu nt (hd d hd'), fun N W' r v G' H' hP hN g' hw r' => q N W' r v G' H' hP (fun a ha => g1.h.free (hN a ha)) (g1.cutOf g') hw r'⟩⟩
theorem dx_ifF (hdH : ∀ G H, Same G H → W.p G H → ∀ d ∈ ds, ∃ o, H d = some o ∧ ∀ xs, o ≠ .tup xs) (hc : DT X W c0 ρ false) (hb : DX X W b ρ ds Post) : DX X W (.IfExp c0 a b pos) ρ ds Post :=
  pe_imp (pe_ifExp (ta := fun _ _ _ => False) hc ⟨fun _ _ _ _ _ _ z => z.elim⟩ hb) fun σ H Q ⟨G, c, hd, q⟩ => ⟨G, c, fun G1 H1 g1 => iteF ⟨G1, c.step g1, fun d hd' => by
    obtain ⟨u, hu, nt⟩ := hdH G H c.s c.w d hd'
    exact g1.nosh hu nt (hd d hd'), fun N W' r v G' H' hP hN g' hw r' => q N W' r v G' H' hP (fun a ha => g1.h.free (hN a ha)) (g1.cutOf g') hw r'⟩⟩
theorem rx_ifT (hc : DT X W c0 ρ true) (ha : RX X We W a ρ c) : RX X We W (.IfExp c0 a b pos) ρ c :=
  pe_imp (pe_ifExp (tb := fun _ _ _ => False) hc ha ⟨fun _ _ _ _ _ _ z => z.elim⟩) fun σ H Q ⟨G, cx, q⟩ => ⟨G, cx, fun G1 H1 g1 => iteT ⟨G1, cx.step g1, fun G' H' g' => q G' H' (g1.trans g')⟩⟩
theorem rx_ifF (hc : DT X W c0 ρ false) (hb : RX X We W b ρ c) : RX X We W (.IfExp c0 a b pos) ρ c :=
  pe_imp (pe_ifExp (ta := fun _ _ _ => False) hc ⟨fun _ _ _ _ _ _ z => z.elim⟩ hb) fun σ H Q ⟨G, cx, q⟩ => ⟨G, cx, fun G1 H1 g1 => iteF ⟨G1, cx.step g1, fun G' H' g' => q G' H' (g1.trans g')⟩⟩
end
section
variable {X : Cx} {G0 H0 G1 : Hp} {W A : Res} {ρ : Ro} {D : Ends} {pos p1 ap cp : Pos} {e o a b : Expr} {rest u : List Stmt} {k : Nat} {p : Addr} {ds : List Addr} {Post : PostT} {α : Type} [DecidableEq α] [Datum α]
/-- xs.reverse() -/
theorem d_revR {ys : List α} (hH : H0 p = none) (hF : Frm A p) (ho : DE X (A.and (Own p (ys.map Datum.toD))) o ρ (.v (.ref p))) (k : DSs X rest (At G0 H0 G1 (A.and (Own p (ys.reverse.map Datum.toD))) ρ) D)
    (hm : ∀ {ta : TE}, PE X o ta → PE X (.Call (.Attribute o "reverse" ap) [] [] cp) (tBM0 X.K "list" rReverse ta) := by exact fun ho => pe_bm0 PySem.F.plainAttrs_list PySem.F.slot_list_reverse PySem.F.type_list_reverse mt_reverse ho)
    (hs : swapsWith (.Call (.Attribute o "reverse" ap) [] [] cp) none pos.line X.env = pure false := by rfl) : DSs X (.Expr (.Call (.Attribute o "reverse" ap) [] [] cp) pos :: rest) (At G0 H0 G1 (A.and (Own p (ys.map Datum.toD))) ρ) D := by
  refine d_cons (dst_of (ps_expr (hm ho) hs) fun σ H ⟨G, g, q, c⟩ => ⟨G, c, fun x G2 H2 g2 r2 => ?_⟩) k
  have ex : x = .ref p := r2
  subst ex
  have c2 := c.step g2
  obtain ⟨hA, hg, xs, hh, hx⟩ := c2.w
  refine ⟨.inl ⟨rfl, xs, .inl (.inl hh)⟩, p, xs, rfl, rfl, hh, G2, anchor_upd (g.trans g2) hH hg, q.trans g2.g, fun b o z => ?_, ⟨hF _ _ _ c2.s hg hA, hg, _, upd_same, ?_⟩, c2.e⟩
  · rw [upd_ne (ne_of_none z hg)]
    exact c2.s b o z
  · rw [List.map_reverse]
    exact hx.reverse
/-- if f(..) != y: a change within a test; they are alike -/
theorem d_ifneX {x y : α} (hr : Room k X.A) (he : DX X W a ρ ds Post) (hb : ∀ N W' r, Post N W' r → r = En x ∧ DE X W' b ρ (En y)) (hxy : x = y) (h0 : ∀ d ∈ ds, H0 d = none) (hG : ∀ d ∈ ds, ∀ G H, Same G H → W.p G H → G d = none)
    (kr : ∀ N W' r, Post N W' r → (∀ a ∈ N, H0 a = none ∧ G1 a = none) → DSs X rest (At G0 H0 G1 W' ρ) D) (hd : Datum.depth α ≤ 64 := by decide) : DSs X (.If (.Compare a [.NotEq] [b] p1) u [] pos :: rest) (At G0 H0 G1 W ρ) D := by
  subst hxy
  have hb' : PE X b (fun σ H Q => ∃ W', tD W' ρ (En x) σ H Q ∧ DE X W' b ρ (En x)) := ⟨fun pins s σ H Q I ⟨W', q, h⟩ => h.run pins s σ H Q I q⟩
  refine d_cons (M := fun σ H => ∃ N W' r, (Post N W' r ∧ ∀ a ∈ N, H0 a = none ∧ G1 a = none) ∧ At G0 H0 G1 W' ρ σ H) ?_ (d_ex fun N => d_ex fun W' => d_ex fun r => d_and fun h => kr N W' r h.1 h.2)
  refine dst_of (ps_if (t := tB X u) (u := tB X []) (pt_cmpR (op_neDD (x := x) (y := x) (u64 hr hd)) he hb' (nomark _)) pss_tB pss_tB) fun σ H ⟨G, g, q, c⟩ => ⟨G, c, fun d hd => hG d hd G H c.s c.w, fun N W' r v G' H' hP hN g' hw r' => ?_⟩
  obtain ⟨rfl, hb2⟩ := hb N W' r hP
  have c' : Cxt W' ρ G' σ H' := ⟨g'.i, hw, c.e.mono g'.g⟩
  refine ⟨W', ⟨G', c', fun y' G2 H2 g2 r2 => ?_⟩, hb2⟩
  have e0 : decide (x ≠ x) = false := decide_eq_false (fun z => z rfl)
  refine ⟨G2, g2.i, RepS.mono g2.g r', r2, decide (x ≠ x), rfl, ?_⟩
  rw [e0]
  have c2 := c'.step g2
  refine iteF ⟨_, d_nil fun _ _ h => h, N, W', En x, ⟨hP, fun a ha => ⟨g.h.free (hN a ha), (q.trans c.s).free (hN a ha)⟩⟩, G2, ?_, (q.trans g'.g).trans g2.g, c2⟩
  exact (g.anchor g' h0).trans g2
end
/-! lists of lists of one's own -/
section
variable {X : Cx} {G0 H0 G1 : Hp} {W A : Res} {ρ : Ro} {D : Ends} {pos p1 ap cp fp : Pos} {e o : Expr} {rest body : List Stmt} {k : Nat} {p : Addr} {as : List Addr} {ds : List PyData} {dss : List (List PyData)} {b : Bool}
/-- xs.append(a new list) -/
theorem d_appNew (np : p ∉ as) (nda : as.Nodup) (hH : H0 p = none) (hF : Frm A p) (ho : DE X (A.and (OwnLL p as dss)) o ρ (.v (.ref p))) (he : DN X (A.and (OwnLL p as dss)) e ρ ds) (hz : as.length < 1000000)
    (k : ∀ q, H0 q = none → G1 q = none → q ∉ as → q ≠ p → DSs X rest (At G0 H0 G1 (A.and (OwnLL p (as ++ [q]) (dss ++ [ds]))) ρ) D) (hst : starEach [e] X.env = (false, eval e X.env) :: starEach [] X.env := by rfl)
    (hm : ∀ {ta te : TE}, PE X o ta → PA X [e] (tCons te tNil) → PE X (.Call (.Attribute o "append" ap) [e] [] cp) (tBM X.K "list" rAppend ta (tCons te tNil)) := by exact fun ho ha => pe_bm PySem.F.plainAttrs_list PySem.F.slot_list_append PySem.F.type_list_append mt_append ho ha)
    (hs : swapsWith (.Call (.Attribute o "append" ap) [e] [] cp) none pos.line X.env = pure false := by rfl) : DSs X (.Expr (.Call (.Attribute o "append" ap) [e] [] cp) pos :: rest) (At G0 H0 G1 (A.and (OwnLL p as dss)) ρ) D := by
  refine d_cons (M := fun σ H => ∃ q, (H0 q = none ∧ G1 q = none ∧ q ∉ as ∧ q ≠ p) ∧ At G0 H0 G1 (A.and (OwnLL p (as ++ [q]) (dss ++ [ds]))) ρ σ H) ?_ (d_ex fun q => d_and fun h => k q h.1 h.2.1 h.2.2.1 h.2.2.2)
  refine dst_of (ps_expr (hm ho (pa_cons he pa_nil hst)) hs) fun σ H ⟨G, g, q, c⟩ => ⟨G, c, fun x G2 H2 g2 r2 => ?_⟩
  have ex : x = .ref p := r2
  subst ex
  have c2 := c.step g2
  obtain ⟨hA, hg, hh, hl⟩ := c2.w
  refine ⟨.inl ⟨rfl, _, .inl (.inl hh)⟩, G2, c2, fun b ws G3 H3 g3 hb gb hbl hr3 => ?_⟩
  have c3 := c2.step g3
  obtain ⟨hA3, hg3, hh3, hl3⟩ := c3.w
  have nbp : b ≠ p := fun e => by rw [e, hh] at hb; cases hb
  have nba : b ∉ as := fun z => by
    obtain ⟨_, vs, hv⟩ := hl.mem z
    rw [hb] at hv
    cases hv
  refine ⟨p, as.map V.ref, .ref b, rfl, rfl, hh3, by rw [List.length_map, sizeLine_eq]; omega, b, ⟨(g.h.trans g2.h).free hb, (q.trans (g2.g.trans g3.g)).free gb, nba, nbp⟩, G3, anchor_upd ((g.trans g2).trans g3) hH hg3, (q.trans g2.g).trans g3.g, fun x o z => ?_, ⟨hF _ _ _ c3.s hg3 hA3, hg3, ?_, ?_⟩, c3.e⟩
  · rw [upd_ne (ne_of_none z hg3)]
    exact c3.s x o z
  · rw [List.map_append]
    exact upd_same
  · refine ((hl3.append gb hbl hr3).upd fun z => ?_)
    rcases List.mem_append.mp z with z | z
    · exact np z
    · exact nbp (List.mem_singleton.mp z).symm
theorem addT_same {G H : Hp} {bs : List Addr} (s : Same G H) : Same G (addT G H bs) ∧ Same (addT G H bs) H := by
  refine ⟨fun b o e => ?_, fun b o e => ?_⟩
  · unfold addT
    by_cases hb : b ∈ bs
    · rw [if_pos hb]
      exact s b o e
    · rw [if_neg hb]
      exact e
  · unfold addT at e
    by_cases hb : b ∈ bs
    · rw [if_pos hb] at e
      exact e
    · rw [if_neg hb] at e
      exact s b o e
/-- all is lent within a test -/
theorem dt_lendLL (hW : ∀ G H, Same G H → W.p G H → (OwnLL p as dss).p G H) (h : DT X (R0.and (Lent p (dss.map PyData.list))) e ρ b) : DT X W e ρ b :=
  pt_imp h fun σ H Q ⟨G, c, k⟩ => by
    obtain ⟨hg, hh, hl⟩ := hW G H c.s c.w
    obtain ⟨s1, s2⟩ := addT_same (bs := p :: as) c.s
    have hp : addT G H (p :: as) p = some (.lst (as.map V.ref)) := by
      unfold addT
      rw [if_pos List.mem_cons_self]
      exact hh
    have rp : RpAll (addT G H (p :: as)) (as.map V.ref) (dss.map PyData.list) := by
      have q := lls_rp (as0 := p :: as) c.s (fun a ha => List.mem_cons_of_mem _ ha) hl
      exact q
    refine ⟨addT G H (p :: as), ⟨s2, ⟨trivial, _, hp, rp⟩, c.e.mono s1⟩, fun G' H' g => k (cut (p :: as) G') H' ⟨fun x o e => ?_, g.h, fun x o e => g.i x o (cut_some e).2, fun x o e n => ?_⟩⟩
    · have nb : x ∉ p :: as := fun z => by
        rcases List.mem_cons.mp z with z | z
        · rw [z, hg] at e
          cases e
        · rw [(hl.mem z).1] at e
          cases e
      rw [cut_ne nb]
      exact g.g x o (s1 x o e)
    · obtain ⟨h1, h2⟩ := cut_some e
      exact g.n x o h2 (by unfold addT; rw [if_neg h1]; exact n)
/-- a call that makes a list of lists, as a new list -/
theorem tn_ofLL {f : List (List Int)} (he : DX X W e ρ [] Post) (h : ∀ N W' r, Post N W' r → ∃ p as, N = p :: as ∧ p ∉ as ∧ (∀ G H, Same G H → W'.p G H → (OwnLL p as (f.map (List.map Datum.toD))).p G H) ∧ r = .v (.ref p)) : TN X W e ρ f :=
  pe_imp he fun σ H Q ⟨G, c, k⟩ => ⟨G, c, fun d hd => (by cases hd), fun N W' r v G' H' hP hN g' hw r' => by
    obtain ⟨p, as, rfl, np, hl, rfl⟩ := h N W' r hP
    have ev : v = .ref p := r'
    subst ev
    rw [cut_nil] at g'
    obtain ⟨hg, hh, hl⟩ := hl G' H' g'.i hw
    obtain ⟨s1, s2⟩ := addT_same (bs := as) g'.i
    have pn : addT G' H' as p = none := by
      unfold addT
      rw [if_neg np]
      exact hg
    refine k p (as.map V.ref) (addT G' H' as) H' ⟨g'.g.trans s1, g'.h, s2, fun x o e n => ?_⟩ (hN p List.mem_cons_self) pn hh ?_
    · unfold addT at e
      by_cases hx : x ∈ as
      · exact .inl (hN x (List.mem_cons_of_mem _ hx))
      · rw [if_neg hx] at e
        exact g'.n x o e n
    · have q := lls_rp (as0 := as) g'.i (fun a ha => ha) hl
      rw [List.map_map] at q
      exact q⟩
end
/-- a list of lists of one's own, whose places are not told; B: where they are new -/
def OLLx (B : Hp) (p : Addr) (dss : List (List PyData)) : Res := ⟨fun G H => ∃ as : List Addr, (p ∉ as ∧ as.Nodup ∧ (∀ a ∈ as, B a = none) ∧ as.length = dss.length) ∧ (OwnLL p as dss).p G H, fun s g ⟨as, h1, h2⟩ => ⟨as, h1, (OwnLL p as dss).mono s g h2⟩⟩
section
variable {X : Cx} {G0 H0 G1 B : Hp} {W A : Res} {ρ : Ro} {D : Ends} {rest body : List Stmt} {p : Addr} {dss : List (List PyData)}
theorem d_exLL (k : ∀ as : List Addr, p ∉ as → as.Nodup → (∀ a ∈ as, B a = none) → as.length = dss.length → DSs X body (At G0 H0 G1 (A.and (OwnLL p as dss)) ρ) D) : DSs X body (At G0 H0 G1 (A.and (OLLx B p dss)) ρ) D :=
  d_imp (P := fun σ H => ∃ as : List Addr, (p ∉ as ∧ as.Nodup ∧ (∀ a ∈ as, B a = none) ∧ as.length = dss.length) ∧ At G0 H0 G1 (A.and (OwnLL p as dss)) ρ σ H) (d_ex fun as => d_and fun h => k as h.1 h.2.1 h.2.2.1 h.2.2.2) fun σ H ⟨G, g, q, c⟩ => by
    obtain ⟨hA, as, h, hO⟩ := c.w
    exact ⟨as, h, G, g, q, c.s, ⟨hA, hO⟩, c.e⟩
theorem oll_nil {G H : Hp} (h : (Own p []).p G H) : (OLLx B p []).p G H := by
  obtain ⟨h1, xs, h2, h3⟩ := h
  cases h3
  exact ⟨[], ⟨List.not_mem_nil, List.nodup_nil, (fun a z => by cases z), rfl⟩, h1, h2, .nil⟩
end
/-- the lent list of lists, as data -/
theorem de_lentLL {X : Cx} {W : Res} {ρ : Ro} {e : Expr} {p : Addr} {f : List (List Int)} (h : DE X W e ρ (.v (.ref p))) (hW : ∀ G H, Same G H → W.p G H → (Lent p ((f.map (List.map Datum.toD)).map PyData.list)).p G H) : DE X W e ρ (En f) := by
  have q := de_lent h hW
  have e2 : (Sl.d (.list ((f.map (List.map Datum.toD)).map PyData.list))) = En f := by
    rw [List.map_map]
    rfl
  rw [e2] at q
  exact q
end DL

/-! DL25: texts. -/
namespace DL
open PySem PySem.Spec L2
open PyProof.Rows hiding St
open PySem.W (Datum DatumOrd Tup T3 Holds HoldAll EachIs SomeDatum)
/-- a text's sgnS -/
def sgnS (x : Str) : List Str := x.cps.toList.map fun c => ⟨#[c]⟩
def strI (i : Int) : Str := toString i
def intV (x : Str) : Int := (PySem.intText? x).getD 0
section
variable {X : Cx} {W : Res} {ρ : Ro} {pos fp apos p2 : Pos} {a b c e tg : Expr} {x y z : Str} {i : Int}
theorem de_addS (ha : DE X W a ρ (En x)) (hb : DE X W b ρ (En y)) (h : x.length + y.length ≤ 1000000) : DE X W (.BinOp a .Add b pos) ρ (En (x ++ y)) := de_op op_add_str ha hb fun G H u v Q hs hw r1 r2 k => by
  cases r1
  cases r2
  exact ⟨x, y, rfl, rfl, by rw [sizeLine_eq]; omega, k _ G H (.refl hs) (.str _)⟩
theorem de_strI (hm : X.mg "str" = none) (ha : DE X W a ρ (En i)) (h : i.natAbs.log2 < 1920) (hg : Gl X "str" := by rfl) (sa : SA1 X a pos := by exact ⟨rfl, rfl⟩) : DE X W (.Call (.Name "str" fp) [a] [] pos) ρ (En (strI i)) :=
  de_tCB (pe_callTy call_str_int hg hm (by decide +kernel) (da_cons ha da_nil sa.h) (he := sa.h) (hpl := sa.b)) fun G H vs Q hs hw r q => by
    cases r with
    | cons h1 t =>
      cases t
      cases h1
      exact ⟨i, rfl, h, q _ G H (.refl hs) (.str _)⟩
theorem te_lenS (hm : X.mg "len" = none) (ha : DE X W a ρ (En x)) (h : x.length ≤ 1000000) (hg : Gl X "len" := by rfl) (sa : SA1 X a pos := by exact ⟨rfl, rfl⟩) : DE X W (.Call (.Name "len" fp) [a] [] pos) ρ (En (x.length : Int)) :=
  de_tCB (pe_callB call_len_str hg hm (by decide +kernel) (da_cons ha da_nil sa.h) (he := sa.h) (hpl := sa.b)) fun G H vs Q hs hw r q => by
    cases r with
    | cons h1 t =>
      cases t
      cases h1
      exact ⟨x, rfl, by rw [sizeLine_eq]; omega, q _ G H (.refl hs) (.int _)⟩
theorem de_intS (hm : X.mg "int" = none) (ha : DE X W a ρ (En x)) (h : PySem.intText? x ≠ none) (hl : x.length ≤ 640) (hg : Gl X "int" := by rfl) (sa : SA1 X a pos := by exact ⟨rfl, rfl⟩) : DE X W (.Call (.Name "int" fp) [a] [] pos) ρ (En (intV x)) :=
  de_tCB (pe_callTy call_int_str hg hm (by decide +kernel) (da_cons ha da_nil sa.h) (he := sa.h) (hpl := sa.b)) fun G H vs Q hs hw r q => by
    cases r with
    | cons h1 t =>
      cases t
      cases h1
      cases e : PySem.intText? x with
      | none => exact absurd e h
      | some n =>
        have ev : intV x = n := by
          unfold intV
          rw [e]
          rfl
        rw [ev] at q
        exact ⟨x, n, rfl, e, hl, q _ G H (.refl hs) (.int _)⟩
theorem rp_strs (H : Hp) : ∀ ns : List Str, RpAll H (ns.map V.str) (ns.map Datum.toD)
  | [] => .nil
  | x :: xs => .cons (.str x) (rp_strs H xs)
theorem tn_split (ho : DE X W a ρ (En x)) (he : DE X W b ρ (En y)) (hy : (y.length == 0) = false) (hx : x.length ≤ 1000000) (hs : starEach [b] X.env = [(false, eval b X.env)] := by rfl) (hbase : attributeBase a "split" X.env (eval a X.env) = eval a X.env := by rfl) (hline : (apos.endLine == pos.line) = true := by rfl) :
    TN X W (.Call (.Attribute a "split" apos) [b] [] pos) ρ (Txt.split x y) :=
  pe_imp (pe_split ho he hs hbase hline) fun σ H Q ⟨G, c, k⟩ => ⟨G, c, fun v G1 H1 g1 r1 => by
    cases r1
    refine ⟨⟨x, rfl⟩, G1, c.step g1, fun u G2 H2 g2 r2 => ?_⟩
    cases r2
    refine ⟨x, y, rfl, rfl, hy, by rw [sizeLine_eq]; omega, fun p hp => ?_⟩
    have g12 := g1.trans g2
    exact k p _ G2 _ (g12.trans (.heap g2.i (same_upd hp))) (g12.h.free hp) (g2.i.free hp) upd_same (rp_strs _ _)⟩
theorem de_ixS (ha : DE X W a ρ (En x)) (hb : DE X W b ρ (En i)) (h : -((sgnS x).length : Int) ≤ i ∧ i < (sgnS x).length) (hl : x.length ≤ 1000000) (hs : PlainIx b := by intro _ _; rfl) : DE X W (.Subscript a b pos) ρ (En (ixD (sgnS x) i)) :=
  de_tOp (pe_ix ix_str ha hb hs) fun G H u v Q hs' hw r1 r2 k => by
    cases r1
    cases r2
    have q := atI_ixD h
    unfold sgnS at q
    rw [atI_map] at q
    cases e : L2.atI x.cps.toList i with
    | none =>
      rw [e] at q
      cases q
    | some n =>
      rw [e] at q
      have q2 := Option.some.inj q
      refine ⟨x, i, n, rfl, rfl, by rw [sizeLine_eq]; omega, e, k _ G H (.refl hs') ?_⟩
      unfold sgnS
      rw [← q2]
      exact .str _
/-- x <= y <= z, texts -/
def leS (x y : Str) : Bool := !decide (y.cps.toList < x.cps.toList)
theorem rv_leS : RV W (fun u v H Q => ∃ i j, u = .str i ∧ v = .str j ∧ Q (.bl (!decide (j.cps.toList < i.cps.toList))) H) (En x) (En y) (En (leS x y)) := fun G H u v Q hs hw r1 r2 k => by
  cases r1
  cases r2
  exact ⟨x, y, rfl, rfl, k _ G H (.refl hs) (.bl _)⟩
theorem de_le_leS (ha : DE X W a ρ (En x)) (hb : DE X W b ρ (En y)) (hc : DE X W c ρ (En z)) (hm : lastMarks [.LtE, .LtE] [b, c] = false := by with_unfolding_all rfl) : DE X W (.Compare a [.LtE, .LtE] [b, c] pos) ρ (En (leS x y && leS y z)) :=
  de_chain op_le_str op_le_str ha hb hc rv_leS (fun _ => rv_leS) (pe_chain op_le_str op_le_str ha hb hc hm)
theorem chain_go {r r' : L2.R2} {sa sb sc : Sl} {k l : Bool} {σ : L2.St} {H : Hp} {Q : VK} (hr : RV W r sa sb (En k)) (hr' : k = true → RV W r' sb sc (En l)) (h : tD W ρ (En (k && l)) σ H Q) : tChain r r' (tD W ρ sa) (tD W ρ sb) (tD W ρ sc) σ H Q := by
  obtain ⟨G, c, q⟩ := h
  exact ⟨G, c, fun x G1 H1 g1 r1 => ⟨G1, c.step g1, fun y G2 H2 g2 r2 => hr G2 H2 x y _ g2.i ((c.step g1).step g2).w (r1.mono g2.g) r2 fun v G3 H3 g3 r3 => by
    cases r3
    refine ⟨k, rfl, ?_⟩
    have c3 := ((c.step g1).step g2).step g3
    cases k with
    | true => exact iteT ⟨G3, c3, fun z G4 H4 g4 r4 => hr' rfl G4 H4 y z _ g4.i (c3.step g4).w ((r2.mono g3.g).mono g4.g) r4 fun v G5 H5 g5 r5 => q v G5 H5 ((((g1.trans g2).trans g3).trans g4).trans g5) r5⟩
    | false => exact iteF (q _ G3 H3 ((g1.trans g2).trans g3) (.bl false))⟩⟩
/-- i <= j <= k as a test -/
theorem dt_le_le {i j k : Int} (ha : DE X W a ρ (En i)) (hb : DE X W b ρ (En j)) (hc : DE X W c ρ (En k)) (hm : lastMarks [.LtE, .LtE] [b, c] = false := by with_unfolding_all rfl) : DT X W (.Compare a [.LtE, .LtE] [b, c] pos) ρ (decide (i ≤ j) && decide (j ≤ k)) :=
  pt_imp (pt_chain op_le op_le ha hb hc hm) fun σ H Q ⟨G, cx, q⟩ => chain_go (rv_I0 fun _ => .bl _) (fun _ => rv_I0 fun _ => .bl _) ⟨G, cx, fun v G1 H1 g1 r1 => by
    cases r1
    exact ⟨_, rfl, q G1 H1 g1⟩⟩
theorem dt_le_leS (ha : DE X W a ρ (En x)) (hb : DE X W b ρ (En y)) (hc : DE X W c ρ (En z)) (hm : lastMarks [.LtE, .LtE] [b, c] = false := by with_unfolding_all rfl) : DT X W (.Compare a [.LtE, .LtE] [b, c] pos) ρ (leS x y && leS y z) :=
  pt_imp (pt_chain op_le_str op_le_str ha hb hc hm) fun σ H Q ⟨G, cx, q⟩ => chain_go rv_leS (fun _ => rv_leS) ⟨G, cx, fun v G1 H1 g1 r1 => by
    cases r1
    exact ⟨_, rfl, q G1 H1 g1⟩⟩
/-- for c in text -/
theorem ti_str (h : DE X W e ρ (En x)) (hl : x.length ≤ 1000000) : DIg X W tg e ρ ((sgnS x).map fun z => En z) := pi_imp (pi_str h) fun σ H R ⟨G, c, k⟩ => ⟨G, c, fun v G1 H1 g1 r1 => by
  cases r1
  have len : (sgnS x).length = x.cps.size := by
    unfold sgnS
    rw [List.length_map, Array.length_toList]
  refine ⟨x, rfl, k _ G1 H1 g1 ⟨by rw [List.length_map, len, sizeLine_eq]; exact Nat.le_trans hl (by decide), fun i H hz hi => ?_, fun i H hz hi => ?_, fun i G1 H y H1 s hz hg hh hs hy => ?_⟩⟩
  · rw [List.length_map, len] at hi
    exact hi
  · rw [List.length_map, len] at hi
    exact hi
  · obtain ⟨rfl, c, hc, rfl⟩ := hy
    rw [List.getElem?_map] at hs
    unfold sgnS at hs
    rw [List.getElem?_map, Array.getElem?_toList, hc] at hs
    cases hs
    exact ⟨G1, .refl hh, .str _⟩⟩
end
end DL

/-! DL26: isinstance of objects, is None of objects, tests that change, calls with an object made on the spot, defs that hand back a new list. -/
namespace DL
open PySem PySem.Spec L2
open PyProof.Rows hiding St
open PySem.W (Datum DatumOrd Tup T3 Holds HoldAll EachIs SomeDatum)
/-- what isinstance asks of an own class and its instances -/
structure ObC (K : PySem.W.Frag) (C : Addr) : Prop where
  a : PySem.W.findIn K (.ref C) "__class__" = some (some (.builtin "object.__class__"))
  n : PySem.W.specialIn K (.builtin "object.__class__") "__get__" = some (some (.builtin "getset_descriptor.__get__"))
  t : PySem.W.takesIn K (.builtin "object.__class__") = some true
  m : PySem.W.mroIn K C (.type "object") = some true
  k : PySem.W.kitOne K (.ref C) (.ref C) = some true
theorem obC_of {K : PySem.W.Frag} {x : Str} (h : (Fx.objc x).ok K = true) : ObC K (He.ga K x) := by
  unfold Fx.ok at h
  simp only [Bool.and_eq_true, decide_eq_true_eq] at h
  exact ⟨h.1, h.2.1, h.2.2.1, h.2.2.2.1, h.2.2.2.2⟩
section
variable {X : Cx} {W W0 : Res} {ρ : Ro} {pos fp p2 tp : Pos} {a e : Expr} {es : List Expr} {p C : Addr} {x : Str} {k j : Nat}
/-- isinstance(o, C), o an instance of the own class C -/
theorem de_isO {m : Str} {S : Type} {OR : Addr → S → Res} {s : S} (hm : X.mg "isinstance" = none) (cl : Cls X.K C) (oc : ObC X.K C) (iso : IsO OR C m) (ha : DE X W a ρ (.v (.ref p))) (hW : ∀ G H, Same G H → W.p G H → (OR p s).p G H) (ht : X.mg x = some (.ref C)) (hgx : Gl X x := by rfl) (hdb : (x == ("__debug__" : Str)) = false := by decide) (hg : Gl X "isinstance" := by rfl)
    (sa : SA2 X a (.Name x tp) pos := by exact ⟨rfl, rfl, rfl⟩) : DE X W (.Call (.Name "isinstance" fp) [a, .Name x tp] [] pos) ρ (En true) :=
  de_tCB (pe_callB call_isi hg hm (by decide +kernel) (da_cons ha (da_cons (de_cst (s := .v (.ref C)) (pe_glob (v := .ref C) hgx ht rfl hdb) fun _ => rfl) da_nil sa.h2) sa.h) (he := sa.h) (hpl := sa.b)) fun G H vs Q hs hw r q => by
    cases r with
    | cons h t =>
      cases t with
      | cons h2 t =>
        cases t
        have e1 : _ = V.ref p := h
        have e2 : _ = V.ref C := h2
        subst e1 e2
        obtain ⟨dx, fs, hi, _⟩ := iso p s G H (hW G H hs hw)
        exact ⟨_, .ref C, .ref C, .ref C, true, rfl, .own C, .base (.ins hi cl oc.a oc.n oc.t oc.m), oc.k, q _ G H (.refl hs) (.bl true)⟩
/-- o is None, o an object -/
theorem dt_isNv {j : Nat} (ha : DE X W a ρ (.v (.ref p))) (h1 : behindInMarks .Is (.Constant .none j p2) = false := by rfl) : DT X W (.Compare a [.Is] [.Constant .none j p2] pos) ρ false :=
  pt_imp (pt_cmp (pc_isN ha) h1) fun σ H Q ⟨G, c, k⟩ => ⟨G, c, fun v G' H' g r => by
    have ev : v = .ref p := r
    subst ev
    exact ⟨_, rfl, k G' H' g⟩⟩
end
section
variable {X : Cx} {G0 H0 G1 : Hp} {W A : Res} {ρ : Ro} {D : Ends} {pos p1 np : Pos} {c0 a : Expr} {rest u : List Stmt} {ds : List Addr} {Post : PostT}
/-- if c and not f(..): the change happens, f gives True -/
theorem d_ifAndNotX (hdH : ∀ G H, Same G H → W.p G H → ∀ d ∈ ds, ∃ o, H d = some o ∧ ∀ xs, o ≠ .tup xs) (hc : DT X W c0 ρ true) (he : DX X W a ρ ds Post) (hb : ∀ N W' r, Post N W' r → r = En true) (h0 : ∀ d ∈ ds, H0 d = none) (hG : ∀ d ∈ ds, ∀ G H, Same G H → W.p G H → G d = none)
    (kr : ∀ N W' r, Post N W' r → (∀ a ∈ N, H0 a = none ∧ G1 a = none) → DSs X rest (At G0 H0 G1 W' ρ) D) (hv : ∀ whole, isTrue a X.env whole = (do let v ← whole; standAt a.pos; holding [v] (truthy v)) := by intro _; rfl) : DSs X (.If (.BoolOp .And [c0, .UnaryOp .Not a np] p1) u [] pos :: rest) (At G0 H0 G1 W ρ) D := by
  refine d_cons (M := fun σ H => ∃ N W' r, (Post N W' r ∧ ∀ a ∈ N, H0 a = none ∧ G1 a = none) ∧ At G0 H0 G1 W' ρ σ H) ?_ (d_ex fun N => d_ex fun W' => d_ex fun r => d_and fun h => kr N W' r h.1 h.2)
  refine dst_of (ps_if (t := tB X u) (u := tB X []) (PW.pt (pw_and hc (pw_and1 (pt_not (pt_val he hv))))) pss_tB pss_tB) fun σ H ⟨G, g, q, c⟩ => ⟨G, c, fun G2 H2 g2 => iteT ⟨G2, c.step g2, fun d hd => ?_, fun N W' r v G' H' hP hN g' hw r' => ?_⟩⟩
  · obtain ⟨o, ho, nt⟩ := hdH G H c.s c.w d hd
    exact g2.nosh ho nt (hG d hd G H c.s c.w)
  · have e := hb N W' r hP
    subst e
    cases r'
    refine ⟨true, rfl, iteF ⟨_, d_nil fun _ _ h => h, N, W', En true, ⟨hP, fun a ha => ⟨(g.h.trans g2.h).free (hN a ha), ((q.trans c.s).trans g2.h).free (hN a ha)⟩⟩, G', (g.trans g2).anchor g' h0, (q.trans g2.g).trans g'.g, g'.i, hw, (c.step g2).e.mono g'.g⟩⟩
end
section
variable {X : Cx} {W : Res} {ρ : Ro} {pos fp : Pos} {a e1 e2 : Expr} {k j : Nat} {x : Str} {ps : List Str} {p : Addr} {s1 s2 r : Sl} {R : List Sl → Res → Sl → Prop} {Post : PostT}
/-- f(g(..), e1, e2), g making an object -/
theorem de_callD2 (F : FnG X.prog X.w X.K X.mg X.base j x ps R) (hr : Room k X.A) (he : DX X W a ρ [] Post) (h1 : DE X W e1 ρ s1) (h2 : DE X W e2 ρ s2) (hP : ∀ N W1 r1, Post N W1 r1 → (∃ p, r1 = .v (.ref p)) ∧ ∃ W0, (∀ G H, Same G H → W1.p G H → W0.p G H) ∧ R [r1, s1, s2] W0 r) (hj : j ≤ k := by decide) (hg : Gl X x := by rfl) (hdb : (x == ("__debug__" : Str)) = false := by decide)
    (sa : SAs X a [e1, e2] pos := by exact ⟨rfl, rfl⟩) (sb : SAs X e1 [e2] pos := by exact ⟨rfl, rfl⟩) (sc : SAs X e2 [] pos := by exact ⟨rfl, rfl⟩) : DE X W (.Call (.Name x fp) [a, e1, e2] [] pos) ρ r := by
  obtain ⟨f, fd, f1, f2, f3, f4⟩ := F
  exact pe_imp (pe_call (E := E0) f4 (hr.mono hj) hg f1 f2 f3 .nil L2.pass0 (pa_cons he (pa_cons h1 (pa_cons h2 pa_nil sc.he) sb.he) sa.he) hdb sa.he sa.hpl) fun σ H Q ⟨G, c, q⟩ => ⟨G, c, fun d hd => (by cases hd), fun N W1 r1 v G1 H1 hP1 hN1 g1 hw1 rv => by
    rw [cut_nil] at g1
    obtain ⟨⟨p, rfl⟩, W0, hW0, hR⟩ := hP N W1 r1 hP1
    have c1 := c.step g1
    refine ⟨G1, c1, fun v2 G2 H2 g2 r2 => ?_⟩
    have c2 := c1.step g2
    refine ⟨G2, c2, fun v3 G3 H3 g3 r3 => ?_⟩
    have c3 := c2.step g3
    have hw3 := W1.mono g1.i (g2.trans g3) hw1
    have z : ∀ E : XK, SpD R [v, v2, v3] H3 Q E := fun E => ⟨G3, [.v (.ref p), s1, s2], W0, r, g3.i, hW0 _ _ g3.i hw3, .cons rv (.cons (r2.mono g3.g) (.cons r3 .nil)), hR, fun u G4 H4 g4 r4 => q u G4 H4 (((g1.trans g2).trans g3).trans g4) r4⟩
    exact z E0⟩
end
section
variable {P : Program} {w : World} {K : PySem.W.Frag} {mg : Str → Option Value} {base : Heap} {k : Nat} {x : Str} {st : Stmt} {ps : List Str} {R : List Sl → Res → List PyData → Prop}
theorem fnn_of (D : DefG K mg x st) (b : BindE x x st ps) (h : ∀ f fd, FnP K x x st f fd → FnOk P w K mg base L2.CX0 k f fd ps (SpN R)) : FnN P w K mg base k x ps R := by
  obtain ⟨f, fd, F, hm⟩ := D
  exact ⟨f, fd, hm, F.kp, F.bindsN b, h f fd F⟩
variable {X : Cx} {W W0 : Res} {ρ : Ro} {pos fp : Pos} {e : Expr} {es : List Expr} {ss : List Sl} {j : Nat} {ds : List PyData}
theorem dn_call (F : FnN X.prog X.w X.K X.mg X.base j x ps R) (hr : Room k X.A) (ha : DA X W (e :: es) ρ ss) (hW : ∀ G H, Same G H → W.p G H → W0.p G H) (hR : R ss W0 ds) (hj : j ≤ k := by decide) (hg : Gl X x := by rfl) (hdb : (x == ("__debug__" : Str)) = false := by decide)
    (he : starEach (e :: es) X.env = (false, eval e X.env) :: starEach es X.env := by rfl) (hpl : (backTo pos (starEach es X.env)).any (·.1) = false := by rfl) : DN X W (.Call (.Name x fp) (e :: es) [] pos) ρ ds := by
  obtain ⟨f, fd, h1, h2, h3, h4⟩ := F
  exact pe_imp (pe_call h4 (hr.mono hj) hg h1 h2 h3 .nil L2.pass0 ha hdb he hpl) fun σ H Q ⟨G, c, q⟩ => ⟨G, c, fun vs G1 H1 g1 r1 => by
    show SpN R (vs ++ []) H1 Q _
    rw [List.append_nil]
    exact ⟨G1, ss, W0, ds, g1.i, hW _ _ g1.i (c.step g1).w, r1, hR, fun p xs G' H' g' hp gp hh hx => q p xs G' H' (g1.trans g') (g1.h.free hp) gp hh hx⟩⟩
end
theorem dtk {X : Cx} {W : Res} {ρ : Ro} {e : Expr} {k l : Bool} (h : DT X W e ρ k) (hk : k = l) : DT X W e ρ l := by
  subst hk
  exact h
/-- a list of one's own is handed back -/
theorem d_retO {X : Cx} {G0 H0 G1 : Hp} {A : Res} {ρ : Ro} {D : Ends} {pos : Pos} {e : Expr} {rest : List Stmt} {p : Addr} {ds : List PyData} (hH : H0 p = none) (he : DE X (A.and (Own p ds)) e ρ (.v (.ref p))) (k : ∀ v H', rtN G0 H0 ds v H' → D.rt v H') : DSs X (.Return (some e) pos :: rest) (At G0 H0 G1 (A.and (Own p ds)) ρ) D :=
  d_retW he fun v G' H' g _ hw r => by
    have ev : v = .ref p := r
    obtain ⟨_, g0, xs, hh, hx⟩ := hw
    exact k v H' ⟨p, xs, G', ev, g, hH, g0, hh, hx⟩
/-- lines, as they are known -/
theorem linesK {X : Cx} {W : Res} {ρ : Ro} {e : Expr} {α : Type} [DecidableEq α] [Datum α] {x y : α} (h : DE X W e ρ (En x)) (hxy : x = y) : DE X W e ρ (En y) := by
  subst hxy
  exact h
end DL

/-! DL27: dicts keyed by data: numbers, texts, tuples of such, nested. -/
namespace DL
open PySem PySem.Spec L2
open PyProof.Rows hiding St
open PySem.W (Datum DatumOrd Tup T3 Holds HoldAll EachIs SomeDatum)
mutual
/-- numbers, texts, tuples of such -/
def hashD : PyData → Bool
  | .int _ => true
  | .str _ => true
  | .tuple ds => hashDs ds
  | .none => false
  | .bool _ => false
  | .list _ => false
  | .dict _ => false
def hashDs : List PyData → Bool
  | [] => true
  | d :: ds => hashD d && hashDs ds
end
mutual
def keyD : PyData → NestedKey
  | .int i => .num i
  | .str x => .text x
  | .tuple ds => .tup (keyDs ds)
  | .none => .none
  | .bool _ => .none
  | .list _ => .none
  | .dict _ => .none
def keyDs : List PyData → List NestedKey
  | [] => []
  | d :: ds => keyD d :: keyDs ds
end
mutual
theorem keyD_inj : ∀ a b : PyData, hashD a = true → hashD b = true → keyD a = keyD b → a = b
  | .int i, b, _, hb, h => by cases b <;> simp_all [keyD, hashD]
  | .str i, b, _, hb, h => by cases b <;> simp_all [keyD, hashD]
  | .tuple xs, b, ha, hb, h => by
    cases b with
    | tuple ys =>
      simp only [hashD] at ha hb
      simp only [keyD, NestedKey.tup.injEq] at h
      rw [keyDs_inj xs ys ha hb h]
    | _ => simp_all [keyD, hashD]
  | .none, b, ha, _, _ => by simp [hashD] at ha
  | .bool _, b, ha, _, _ => by simp [hashD] at ha
  | .list _, b, ha, _, _ => by simp [hashD] at ha
  | .dict _, b, ha, _, _ => by simp [hashD] at ha
theorem keyDs_inj : ∀ a b : List PyData, hashDs a = true → hashDs b = true → keyDs a = keyDs b → a = b
  | [], [], _, _, _ => rfl
  | [], _ :: _, _, _, h => by simp [keyDs] at h
  | _ :: _, [], _, _, h => by simp [keyDs] at h
  | x :: xs, y :: ys, ha, hb, h => by
    simp only [hashDs, Bool.and_eq_true] at ha hb
    simp only [keyDs, List.cons.injEq] at h
    rw [keyD_inj x y ha.1 hb.1 h.1, keyDs_inj xs ys ha.2 hb.2 h.2]
end
mutual
theorem keyD_depth : ∀ a : PyData, (keyD a).depth ≤ a.depth
  | .int i => Nat.zero_le _
  | .str i => Nat.zero_le _
  | .tuple xs => by
    simp only [keyD, NestedKey.depth, PyData.depth]
    exact Nat.succ_le_succ (keyDs_depth xs)
  | .none => Nat.zero_le _
  | .bool _ => Nat.zero_le _
  | .list _ => Nat.zero_le _
  | .dict _ => Nat.zero_le _
theorem keyDs_depth : ∀ a : List PyData, NestedKey.depthAll (keyDs a) ≤ PyData.depthAll a
  | [] => Nat.zero_le _
  | x :: xs => by
    simp only [keyDs, NestedKey.depthAll, PyData.depthAll]
    have h1 := keyD_depth x
    have h2 := keyDs_depth xs
    omega
end
/-- what may be a key -/
class Keyed (α : Type) [DecidableEq α] [Datum α] : Prop where
  ok : ∀ x : α, hashD (Datum.toD x) = true
instance : Keyed Int := ⟨fun _ => rfl⟩
instance : Keyed Str := ⟨fun _ => rfl⟩
theorem hashDs_map {α : Type} [DecidableEq α] [Datum α] [Keyed α] : ∀ xs : List α, hashDs (xs.map Datum.toD) = true
  | [] => rfl
  | x :: xs => by
    rw [List.map_cons, hashDs, Keyed.ok x, hashDs_map xs]
    rfl
section
variable {α β γ : Type} [DecidableEq α] [Datum α] [Keyed α] [DecidableEq β] [Datum β] [Keyed β] [DecidableEq γ] [Datum γ] [Keyed γ]
instance : Keyed (Tup α) := ⟨fun x => hashDs_map x.items⟩
instance : Keyed (α × β) := ⟨fun x => by
  show hashDs [Datum.toD x.1, Datum.toD x.2] = true
  simp only [hashDs, Keyed.ok, Bool.and_self]⟩
instance : Keyed (T3 α β γ) := ⟨fun x => by
  show hashDs [Datum.toD x.a, Datum.toD x.b, Datum.toD x.c] = true
  simp only [hashDs, Keyed.ok, Bool.and_self]⟩
end
theorem toD_inj {α : Type} [DecidableEq α] [Datum α] {x y : α} (h : (Datum.toD x : PyData) = Datum.toD y) : x = y := by
  have h1 := Datum.eqv x y
  rw [← h, Datum.eqv x x, decide_eq_true rfl] at h1
  exact of_decide_eq_true h1.symm
theorem key_iff {α : Type} [DecidableEq α] [Datum α] [Keyed α] {x y : α} : keyD (Datum.toD x) = keyD (Datum.toD y) ↔ x = y := ⟨fun h => toD_inj (keyD_inj _ _ (Keyed.ok x) (Keyed.ok y) h), fun h => by rw [h]⟩
abbrev Ents := List (NestedKey × Addr × Value)
section
variable {X : Cx} {pins : List (Addr × Obj)} {σ : St} {H : Hp} {s : Shared}
mutual
theorem nested_is (I : Inv X pins σ H s) : ∀ (d : PyData) (v : V) (u : Value), hashD d = true → Rp H v d → RelV v u → NestedIs s.heap (keyD d) u
  | .int i, _, _, _, h, r => by
    cases h
    obtain ⟨t, rfl⟩ := r
    exact .int i t
  | .str x, _, _, _, h, r => by
    cases h
    obtain ⟨t, rfl⟩ := r
    exact .text x t
  | .tuple ds, _, _, hd, h, r => by
    cases h with
    | tup hs ha =>
      cases r
      obtain ⟨its, rv, ⟨o, ho, hc, n, hd2⟩, _⟩ := I.tuple (.inl (.inl hs))
      exact .tup ho hc hd2 (by
        have q := nested_all I ds _ its hd ha rv
        simpa using q)
  | .none, _, _, hd, _, _ => by simp [hashD] at hd
  | .bool _, _, _, hd, _, _ => by simp [hashD] at hd
  | .list _, _, _, hd, _, _ => by simp [hashD] at hd
  | .dict _, _, _, hd, _, _ => by simp [hashD] at hd
theorem nested_all (I : Inv X pins σ H s) : ∀ (ds : List PyData) (vs : List V) (us : List Value), hashDs ds = true → RpAll H vs ds → Vals vs us → NestedAll s.heap (keyDs ds) us
  | [], _, _, _, h, r => by
    cases h
    cases r
    exact .nil
  | d :: ds, _, _, hd, h, r => by
    simp only [hashDs, Bool.and_eq_true] at hd
    cases h with
    | cons h1 h2 =>
      cases r with
      | cons r1 r2 => exact .cons (nested_is I d _ _ hd.1 h1 r1) (nested_all I ds _ _ hd.2 h2 r2)
end
end
/-- the dict d with the entries xs; lk: the object that it is, while it must stay so -/
def DicO (P : Program) (w : World) (d : Addr) (lk : Option Obj) (xs : Ents) : HO := .ext fun h => ((d == sysModules) = false ∧ xs.length ≤ sizeLine ∧ (xs.map (·.1)).Nodup) ∧ ∃ o es ep, h.get? d = some o ∧ (∀ o', lk = some o' → o' = o) ∧ o.ExactDict ∧ o.data = .dict es ep ∧ es.toList = xs.map (entryOfKey (nestedKind P w))
theorem dicO_ok {P : Program} {w : World} {H : Hp} {h : Heap} {d : Addr} {xs : Ents} (z : (d == sysModules) = false) (l : xs.length ≤ sizeLine) (dd : h.DictOfH (nestedKind P w) d xs) : ObjOk P w H h d (DicO P w d none xs) := by
  obtain ⟨o, es, ep, h1, h2, h3, h4, _, h6⟩ := dd
  exact ⟨⟨⟨z, l, h6⟩, o, es, ep, h1, (fun _ q => by cases q), h2, h3, h4⟩, ⟨o, h1⟩, fun a b ⟨q, o, es, ep, e, r⟩ k => ⟨q, o, es, ep, k o e, r⟩⟩
/-- each key's address holds that key -/
def EntK (G : Hp) (xs : Ents) : Prop := ∀ q ∈ xs, ∃ d, q.1 = keyD d ∧ Rp G (.ref q.2.1) d ∧ hashD d = true ∧ (keyD d).depth ≤ 8
section
variable {X : Cx} {pins : List (Addr × Obj)} {σ : St} {G H : Hp} {s : Shared} {a b : Addr} {lk : Option Obj} {xs : Ents} {kd : PyData}
theorem key_is (I : Inv X pins σ H s) (hs : Same G H) (h : Rp G (.ref b) kd) (hh : hashD kd = true) (hd : (keyD kd).depth ≤ 8) : (nestedKind X.prog X.w).is s.heap (keyD kd) b := ⟨nested_is I kd (.ref b) (.ref b) hh (rp_mono hs _ _ h) rfl, hd⟩
theorem dicO_get (I : Inv X pins σ H s) (hs : Same G H) (ha : H a = some (DicO X.prog X.w a lk xs)) (hx : EntK G xs) : s.heap.DictOfH (nestedKind X.prog X.w) a xs ∧ (a == sysModules) = false ∧ xs.length ≤ sizeLine := by
  obtain ⟨⟨⟨z, l, nd⟩, o, es, ep, h1, _, h2, h3, h4⟩, _⟩ := (show ObjOk X.prog X.w H s.heap a (DicO X.prog X.w a lk xs) from I.hok a _ ha)
  exact ⟨⟨o, es, ep, h1, h2, h3, h4, fun q hq => by
    obtain ⟨d, e, r, hh, hd⟩ := hx q hq
    rw [e]
    exact key_is I hs r hh hd, nd⟩, z, l⟩
end
/-! rules -/
def tDNewO (P : Program) (w : World) : TE := fun _ H Q => ∀ p, H p = none → Q (.ref p) (upd H p (DicO P w p none []))
/-- the key is handed over as b -/
def KeyAt (P : Program) (w : World) (H : Hp) (x y : V) (kd : PyData) (a b : Addr) (xs : Ents) : Prop := x = .ref a ∧ y = .ref b ∧ (∃ lk, H a = some (DicO P w a lk xs)) ∧ ∃ G, Same G H ∧ Rp G (.ref b) kd ∧ hashD kd = true ∧ (keyD kd).depth ≤ 8 ∧ EntK G xs
def sNPut (P : Program) (w : World) (td ty tv : TE) : L2.TS := fun D σ H => tv σ H fun v H1 => td σ H1 fun x H2 => ty σ H2 fun y H3 => ∃ (a b : Addr) (kd : PyData) (xs : Ents), KeyAt P w H3 x y kd a b xs ∧ xs.length < sizeLine ∧ ∀ r, RelV v r → D.nx σ (upd H3 a (DicO P w a none (storedH xs (keyD kd) b r)))
/-- d.get(k), d.get(k, z) -/
def tNGet (P : Program) (w : World) (td : TE) (t : L2.TA) : TE := fun σ H Q => td σ H fun x H1 => (∃ a lk xs G, x = .ref a ∧ H1 a = some (DicO P w a lk xs) ∧ Same G H1 ∧ EntK G xs) ∧ t σ H1 fun vs H2 => ∃ (a b : Addr) (kd : PyData) (xs : Ents) (z : V), KeyAt P w H2 x (.ref b) kd a b xs ∧ ((vs = [.ref b] ∧ z = .non) ∨ vs = [.ref b, z]) ∧
  ∃ v, (match atKey xs (keyD kd) with | some p => RelV v p.2 | none => v = z) ∧ Q v H2
def rNIn (P : Program) (w : World) (neg : Bool) : V → V → Hp → VK → Prop := fun y x H Q => ∃ (a b : Addr) (kd : PyData) (xs : Ents), KeyAt P w H x y kd a b xs ∧ Q (.bl (if neg then !(atKey xs (keyD kd)).isSome else (atKey xs (keyD kd)).isSome)) H
/-- d[k] -/
def tNAt (P : Program) (w : World) (td ty : TE) : TE := fun σ H Q => td σ H fun x H1 => ty σ H1 fun y H2 => ∃ (a b : Addr) (kd : PyData) (xs : Ents), KeyAt P w H2 x y kd a b xs ∧ ∃ p v, atKey xs (keyD kd) = some p ∧ RelV v p.2 ∧ Q v H2
theorem storedH_len (xs : Ents) (k : NestedKey) (b : Addr) (r : Value) : (storedH xs k b r).length ≤ xs.length + 1 := by
  unfold storedH
  split
  · rw [List.length_map]
    omega
  · rw [List.length_append]
    exact Nat.le_refl _
section
variable {X : Cx} {o i e value : Expr} {es : List Expr} {pos pos' apos cpos : Pos} {td ty tv : TE} {t : L2.TA}
theorem pe_dnewO : PE X (.Dict [] [] pos) (tDNewO X.prog X.w) := ⟨fun pins s σ H Q I h =>
  wpAny_Dict_empty ⟨.ref s.heap.objs.size, _, I.laid (a := s.heap.objs.size) (o := DicO X.prog X.w s.heap.objs.size none []) (t' := s.toks) (fun _ _ q => Heap.get?_push_of_some _ q) (Nat.le_refl _)
    (dicO_ok (beq_eq_false_iff_ne.mpr (Ne.symm (Nat.ne_of_lt I.big))) (Nat.zero_le _) ⟨_, #[], 0, Heap.get?_push_size _ rfl, ⟨rfl, rfl, rfl⟩, rfl, rfl, (fun x hx => by cases hx), List.nodup_nil⟩), rfl, h _ (I.hok.fresh (Nat.le_refl _))⟩⟩
theorem ps_nput (hu : X.A.units + 16 < cLine) (ho : PE X o td) (hi : PE X i ty) (hv : PE X value tv) (hs : swapsWith value (some (.Subscript o i pos')) pos.line X.env = pure false) :
    PS X (.Assign [.Subscript o i pos'] value pos) (sNPut X.prog X.w td ty tv) := by
  refine ⟨fun pins s σ H D I h => ?_⟩
  refine wpAny_Assign_Subscript (thn (hv.run pins s σ H _ I h) fun r s1 ⟨v, H1, I1, rv, q1⟩ => thn (ho.run pins s1 σ H1 _ I1 q1) fun u s2 ⟨x, H2, I2, rx, q2⟩ => thn (hi.run pins s2 σ H2 _ I2 q2) fun iv s3 ⟨y, H3, I3, ry, a, b, kd, xs, ⟨ex, ey, ⟨lk, ha⟩, G, hG, hb, hh, hd, hx⟩, hl, q3⟩ => ?_) hs
  subst ex ey
  obtain rfl : u = Value.ref a := rx
  obtain rfl : iv = Value.ref b := ry
  obtain ⟨dd, z, l⟩ := dicO_get I3 hG ha hx
  refine wpAny_setItem_heap (knd := nestedKind X.prog X.w) (hsz := l) (by show _ + 8 < _; simp only [Around.in1_units]; omega) (key_is I3 hG hb hh hd) dd fun h' dd' hsame => ?_
  have hl2 : (storedH xs (keyD kd) b r).length ≤ sizeLine := Nat.le_trans (storedH_len _ _ _ _) hl
  have he : ∃ q, h'.get? a = some q := let ⟨q, _, _, hq, _⟩ := dd'; ⟨q, hq⟩
  exact ⟨σ, _, d_write I3 (by rw [ha]; exact True.intro) hsame he (dicO_ok z hl2 dd'), q3 r rv⟩
theorem pe_nget (hu : X.A.units + 16 < cLine) (ho : PE X o td) (ha : PA X (e :: es) t)
    (hbase : attributeBase o "get" X.env (eval o X.env) = eval o X.env := by rfl)
    (hfew : ((backTo cpos (starEach (e :: es) X.env)).all (fun x => !x.1) && (backToKw cpos (keywordEach [] X.env)).all (fun x => x.1.isSome)
      && decide ((e :: es).length + ([] : List Keyword).length + (if ([] : List Keyword).isEmpty then 0 else 1) < 30)) = true := by rfl)
    (hline : (apos.endLine == cpos.line) = true := by rfl) (hs : starEach (e :: es) X.env = (false, eval e X.env) :: starEach es X.env := by rfl) (hplain : (backTo cpos (starEach es X.env)).any (·.1) = false := by rfl) :
    PE X (.Call (.Attribute o "get" apos) (e :: es) [] cpos) (tNGet X.prog X.w td t) := by
  refine ⟨fun pins s σ H Q I h => ?_⟩
  refine wpAny_Call_method_late hbase hfew hline rfl (thn (ho.run pins s σ H _ I h) fun v s1 ⟨x, H1, I1, r1, ⟨a, lk, xs, G, ex, hxa, hG, hx⟩, q1⟩ => ?_)
  subst ex
  obtain rfl : v = Value.ref a := r1
  obtain ⟨dd, z, l⟩ := dicO_get I1 hG hxa hx
  refine ⟨"dict", "dict.get", F.plainAttrs_dict, F.slot_dict_get, F.type_dict_get, dd.typeIs, ?_, ?_⟩
  · intro b q
    cases q
    obtain ⟨o, _, _, h1, h2, _⟩ := dd
    exact ⟨o, h1, h2.2.1⟩
  have hA := ha.run cpos pins s1 σ H1 _ I1 q1
  rw [hs] at hA ⊢
  refine Calls.callWith_builtin (by show (false || (backTo cpos (starEach es X.env)).any (·.1)) = false; rw [hplain] <;> rfl) (Calls.evalArgs_plain ?_)
  refine thn hA fun us s2 ⟨vs, H2, I2, r2, a2, b, kd, xs2, zz, ⟨ex, _, ⟨lk2, ha2⟩, G2, hG2, hb, hh, hd, hx2⟩, hvs, v0, hv0, q2⟩ => ?_
  cases ex
  obtain ⟨dd2, z2, l2⟩ := dicO_get I2 hG2 ha2 hx2
  have room : (nestedKind X.prog X.w).room (Around.in1 X.A) := by show _ + 8 < _; simp only [Around.in1_units]; omega
  rcases hvs with ⟨e1, e2⟩ | e1
  · subst e1 e2
    obtain ⟨u1, rfl, rb⟩ := vals1 r2
    obtain rfl : u1 = Value.ref b := rb
    refine get_keyed room (key_is I2 hG2 hb hh hd) z2 ⟨_, dd2, rfl⟩ ⟨v0, H2, I2.tok _, ?_, q2⟩
    rw [valueAt_pairsH]
    cases q : atKey xs2 (keyD kd) with
    | some p =>
      rw [q] at hv0
      exact hv0
    | none =>
      rw [q] at hv0
      subst hv0
      rfl
  · subst e1
    cases r2 with
    | cons rb rt =>
      cases rt with
      | cons rz rt =>
        cases rt
        cases rb
        refine getOr_keyed room (key_is I2 hG2 hb hh hd) z2 ⟨_, dd2, rfl⟩ ⟨v0, H2, I2.tok _, ?_, q2⟩
        rw [valueAt_pairsH]
        cases q : atKey xs2 (keyD kd) with
        | some p =>
          rw [q] at hv0
          exact hv0
        | none =>
          rw [q] at hv0
          subst hv0
          exact rz
theorem or_nin (hu : X.A.units + 16 < cLine) : OpR X (compareOp .In) (rNIn X.prog X.w false) := by
  intro pins s σ H y x u v Q I ry rx ⟨a, b, kd, xs, ⟨ex, ey, ⟨lk, ha⟩, G, hG, hb, hh, hd, hx⟩, q⟩
  subst ex ey
  cases ry
  cases rx
  obtain ⟨dd, z, l⟩ := dicO_get I hG ha hx
  exact wpAny_in_heap (by show _ + 8 < _; simp only [Around.in1_units]; omega) (key_is I hG hb hh hd) z dd ⟨.bl _, H, I.tok _, rfl, q⟩
theorem or_nni (hu : X.A.units + 16 < cLine) : OpR X (compareOp .NotIn) (rNIn X.prog X.w true) := by
  intro pins s σ H y x u v Q I ry rx ⟨a, b, kd, xs, ⟨ex, ey, ⟨lk, ha⟩, G, hG, hb, hh, hd, hx⟩, q⟩
  subst ex ey
  cases ry
  cases rx
  obtain ⟨dd, z, l⟩ := dicO_get I hG ha hx
  have q' : Q (.bl (!(valueAt (pairsH xs) (keyD kd)).isSome)) H := by
    rw [valueAt_pairsH, Option.isSome_map]
    exact q
  exact notIn_keyed (by show _ + 8 < _; simp only [Around.in1_units]; omega) (key_is I hG hb hh hd) z ⟨_, dd, rfl⟩ ⟨.bl _, H, I.tok _, rfl, q'⟩
theorem pe_nat (hu : X.A.units + 16 < cLine) (ho : PE X o td) (hi : PE X i ty) (hs : NoSl i) : PE X (.Subscript o i pos) (tNAt X.prog X.w td ty) := by
  refine ⟨fun pins s σ H Q I h => ?_⟩
  refine subD_of PySem.F.slot_dict_getitem.lookup hs (thn (ho.run pins s σ H _ I h) fun u s1 ⟨x, H1, I1, rx, q1⟩ => thn (hi.run pins s1 σ H1 _ I1 q1) fun iv s2 ⟨y, H2, I2, ry, a, b, kd, xs, ⟨ex, ey, ⟨lk, ha⟩, G, hG, hb, hh, hd, hx⟩, p, v, hp, rv, q2⟩ => ?_)
  subst ex ey
  obtain rfl : u = Value.ref a := rx
  obtain rfl : iv = Value.ref b := ry
  obtain ⟨dd, z, l⟩ := dicO_get I2 hG ha hx
  exact ⟨dd.typeIs, wpAny_getItem_heap (by show _ + 8 < _; simp only [Around.in1_units]; omega) (key_is I2 hG hb hh hd) dd hp ⟨v, H2, I2.tok _, rv, q2⟩⟩
end
end DL

/-! DL28: dicts keyed by data, as a resource; dicts of texts whose values are lists of one's own. -/
namespace DL
open PySem PySem.Spec L2
open PyProof.Rows hiding St
open PySem.W (Datum DatumOrd Tup T3 Holds HoldAll EachIs SomeDatum)
section
variable {α β : Type} [DecidableEq α] [Datum α] [DecidableEq β] [Datum β]
def lookN (D : List (α × β)) (k : α) : Option β := (D.find? fun e => decide (e.1 = k)).map (·.2)
def putN (D : List (α × β)) (k : α) (v : β) : List (α × β) := if (lookN D k).isSome = true then D.map (fun e => if e.1 = k then (e.1, v) else e) else D ++ [(k, v)]
theorem lookN_nil {k : α} : lookN ([] : List (α × β)) k = none := rfl
theorem lookN_pos {p : α × β} {r : List (α × β)} {k : α} (e : p.1 = k) : lookN (p :: r) k = some p.2 := by simp [lookN, List.find?_cons, e]
theorem lookN_neg {p : α × β} {r : List (α × β)} {k : α} (e : ¬ p.1 = k) : lookN (p :: r) k = lookN r k := by simp [lookN, List.find?_cons, e]
theorem lookN_map {k j : α} {v : β} : ∀ {D : List (α × β)}, lookN (D.map (fun e => if e.1 = k then (e.1, v) else e)) j = if j = k then (lookN D k).map (fun _ => v) else lookN D j
  | [] => by by_cases h : j = k <;> simp [h, lookN]
  | p :: D => by
    rw [List.map_cons]
    have ih := lookN_map (k := k) (j := j) (v := v) (D := D)
    by_cases h : p.1 = k
    · rw [if_pos h]
      by_cases hj : j = k
      · rw [if_pos hj, lookN_pos (show (p.1, v).1 = j from h.trans hj.symm), lookN_pos h]
        rfl
      · rw [if_neg hj, lookN_neg (show ¬ (p.1, v).1 = j from fun z => hj (z.symm.trans h)), ih, if_neg hj, lookN_neg (fun z => hj (z.symm.trans h))]
    · rw [if_neg h]
      by_cases hj : j = k
      · rw [if_pos hj, lookN_neg (fun z => h (z.trans hj)), ih, if_pos hj, lookN_neg h]
      · rw [if_neg hj]
        by_cases h2 : p.1 = j
        · rw [lookN_pos h2, lookN_pos h2]
        · rw [lookN_neg h2, ih, if_neg hj, lookN_neg h2]
theorem lookN_snoc {k j : α} {v : β} : ∀ {D : List (α × β)}, lookN D k = none → lookN (D ++ [(k, v)]) j = if j = k then some v else lookN D j
  | [], _ => by
    by_cases h : j = k
    · rw [if_pos h]
      exact lookN_pos h.symm
    · rw [if_neg h]
      exact lookN_neg fun z => h z.symm
  | p :: D, h0 => by
    by_cases h : p.1 = k
    · rw [lookN_pos h] at h0
      cases h0
    · rw [lookN_neg h] at h0
      have ih := lookN_snoc (j := j) (v := v) h0
      rw [List.cons_append]
      by_cases h2 : p.1 = j
      · rw [lookN_pos h2, lookN_pos h2, if_neg fun z => h (h2.trans z)]
      · rw [lookN_neg h2, lookN_neg h2, ih]
/-- what stands in a dict behind d[k] = v -/
theorem lookN_put {D : List (α × β)} {k j : α} {v : β} : lookN (putN D k v) j = if j = k then some v else lookN D j := by
  unfold putN
  by_cases h : (lookN D k).isSome = true
  · rw [if_pos h, lookN_map]
    by_cases hj : j = k
    · rw [if_pos hj, if_pos hj]
      cases q : lookN D k with
      | none =>
        rw [q] at h
        cases h
      | some y => rfl
    · rw [if_neg hj, if_neg hj]
  · rw [if_neg h]
    have h0 : lookN D k = none := by
      cases q : lookN D k with
      | none => rfl
      | some y =>
        rw [q] at h
        exact absurd rfl h
    exact lookN_snoc h0
theorem putN_len {D : List (α × β)} {k : α} {v : β} : (putN D k v).length ≤ D.length + 1 := by
  unfold putN
  split
  · rw [List.length_map]
    omega
  · rw [List.length_append]
    exact Nat.le_refl _
end
section
variable {α β : Type} [DecidableEq α] [Datum α] [Keyed α] [DecidableEq β] [Datum β]
def EntR (G : Hp) : Ents → List (α × β) → Prop := Paired fun (q : NestedKey × Addr × Value) (e : α × β) => q.1 = keyD (Datum.toD e.1) ∧ Rp G (.ref q.2.1) (Datum.toD e.1) ∧ ∃ v, Rp G v (Datum.toD e.2) ∧ RelV v q.2.2
theorem EntR.mono {G G' : Hp} (g : Same G G') : ∀ {xs : Ents} {D : List (α × β)}, EntR G xs D → EntR G' xs D
  | [], D, h => by
    have h' : Paired _ [] D := h
    cases h'
    exact .nil
  | q :: xs, D, h => by
    have h' : Paired _ (q :: xs) D := h
    cases h' with
    | cons a t =>
      obtain ⟨a1, a2, v, a3, a4⟩ := a
      exact .cons ⟨a1, rp_mono g _ _ a2, v, rp_mono g _ _ a3, a4⟩ (EntR.mono g (xs := xs) t)
theorem EntR.ents {G : Hp} (hd : Datum.depth α ≤ 8) : ∀ {xs : Ents} {D : List (α × β)}, EntR G xs D → EntK G xs
  | [], D, h => fun q hq => by cases hq
  | q :: xs, D, h => by
    have h' : Paired _ (q :: xs) D := h
    cases h' with
    | @cons _ e _ _ a t =>
      intro r hr
      rcases List.mem_cons.mp hr with z | z
      · subst z
        exact ⟨_, a.1, a.2.1, Keyed.ok _, Nat.le_trans (keyD_depth _) (Nat.le_trans (Datum.depth_le _) hd)⟩
      · exact EntR.ents hd (xs := xs) t r z
theorem EntR.len {G : Hp} {xs : Ents} {D : List (α × β)} (h : EntR G xs D) : xs.length = D.length := Paired.length h
theorem atKey_pos {q : NestedKey × Addr × Value} {xs : Ents} {k : NestedKey} (e : q.1 = k) : atKey (q :: xs) k = some q.2 := by simp [atKey, List.find?_cons, e]
theorem atKey_neg {q : NestedKey × Addr × Value} {xs : Ents} {k : NestedKey} (e : ¬ q.1 = k) : atKey (q :: xs) k = atKey xs k := by simp [atKey, List.find?_cons, e]
theorem EntR.at {G : Hp} {k : α} : ∀ {xs : Ents} {D : List (α × β)}, EntR G xs D → (atKey xs (keyD (Datum.toD k)) = none ∧ lookN D k = none) ∨ ∃ p y v, atKey xs (keyD (Datum.toD k)) = some p ∧ lookN D k = some y ∧ Rp G v (Datum.toD y) ∧ RelV v p.2
  | [], D, h => by
    have h' : Paired _ [] D := h
    cases h'
    exact .inl ⟨rfl, rfl⟩
  | q :: xs, D, h => by
    have h' : Paired _ (q :: xs) D := h
    cases h' with
    | @cons _ e _ _ a t =>
      obtain ⟨a1, a2, v, a3, a4⟩ := a
      by_cases hk : e.1 = k
      · exact .inr ⟨q.2, e.2, v, atKey_pos (a1.trans (key_iff.mpr hk)), lookN_pos hk, a3, a4⟩
      · have hn : ¬ q.1 = keyD (Datum.toD k) := fun z => hk (key_iff.mp (a1.symm.trans z))
        rw [atKey_neg hn, lookN_neg hk]
        exact EntR.at (xs := xs) t
theorem EntR.put {G : Hp} {k : α} {y : β} {b : Addr} {v : V} {r : Value} {xs : Ents} {D : List (α × β)} (h : EntR G xs D) (hb : Rp G (.ref b) (Datum.toD k)) (hv : Rp G v (Datum.toD y)) (hr : RelV v r) : EntR G (storedH xs (keyD (Datum.toD k)) b r) (putN D k y) := by
  unfold storedH putN
  have hs : (atKey xs (keyD (Datum.toD k))).isSome = (lookN D k).isSome := by
    rcases h.at (k := k) with ⟨e1, e2⟩ | ⟨p, z, u, e1, e2, _⟩
    · rw [e1, e2]
      rfl
    · rw [e1, e2]
      rfl
  rw [hs]
  by_cases q : (lookN D k).isSome = true
  · rw [if_pos q, if_pos q]
    clear hs q
    induction h with
    | nil => exact .nil
    | @cons q e qs es a t ih =>
      refine .cons ?_ ih
      obtain ⟨a1, a2, u, a3, a4⟩ := a
      unfold putAt
      dsimp only
      by_cases hk : e.1 = k
      · rw [if_pos (a1.trans (key_iff.mpr hk)), if_pos hk]
        exact ⟨a1, a2, v, hv, hr⟩
      · rw [if_neg fun z => hk (key_iff.mp (a1.symm.trans z)), if_neg hk]
        exact ⟨a1, a2, u, a3, a4⟩
  · rw [if_neg q, if_neg q]
    clear hs q
    induction h with
    | nil => exact .cons ⟨rfl, hb, v, hv, hr⟩ .nil
    | cons a t ih => exact .cons a ih
/-- the dict d, whosever it is -/
def DicA (P : Program) (w : World) (d : Addr) (D : List (α × β)) : Res := ⟨fun G H => ∃ lk xs, H d = some (DicO P w d lk xs) ∧ EntR G xs D, fun s g ⟨lk, xs, h2, h3⟩ => ⟨lk, xs, g.h d _ h2, h3.mono g.g⟩⟩
/-- the dict d: what it holds -/
def DicN (P : Program) (w : World) (d : Addr) (D : List (α × β)) : Res := ⟨fun G H => G d = none ∧ (DicA P w d D).p G H, fun s g ⟨h1, lk, xs, h2, h3⟩ => ⟨g.nosh h2 (fun _ z => by unfold DicO at z; cases z) h1, lk, xs, g.h d _ h2, h3.mono g.g⟩⟩
theorem frc_dicN {P : Program} {w : World} {d : Addr} {D : List (α × β)} {ds : List Addr} (h : d ∉ ds) : Frc (DicN P w d D) ds := fun G H s g ⟨h1, lk, xs, h2, h3⟩ => ⟨h1, lk, xs, by rw [cut_ne h]; exact h2, h3⟩
theorem frm_dicN {P : Program} {w : World} {d q : Addr} {D : List (α × β)} (h : d ≠ q) : Frm (DicN P w d D) q := frm_frc (frc_dicN fun z => h (List.mem_singleton.mp z))
theorem frz_dicN {P : Program} {w : World} {d q : Addr} {D : List (α × β)} (h : d ≠ q) : Frz (DicN P w d D) q := fun G H o hs hp g ⟨h1, lk, xs, h2, h3⟩ => ⟨by rw [upd_ne h]; exact h1, lk, xs, h2, h3.mono (same_upd g)⟩
/-- keys are tuples -/
def TupK (α : Type) [DecidableEq α] [Datum α] : Prop := ∀ x : α, ∃ ds, Datum.toD x = .tuple ds
theorem rp_tup {G : Hp} {v : V} {x : α} (ht : TupK α) (r : RepS G v (En x)) : ∃ b, v = .ref b ∧ Rp G (.ref b) (Datum.toD x) := by
  obtain ⟨ds, e⟩ := ht x
  have r' : Rp G v (Datum.toD x) := r
  rw [e] at r' ⊢
  cases r' with
  | tup h1 h2 => exact ⟨_, rfl, .tup h1 h2⟩
section
variable {X : Cx} {W : Res} {ρ : Ro} {pos apos cpos : Pos} {o a b : Expr} {d : Addr} {D : List (α × β)} {q : α} {k : Nat}
theorem u16 (hr : Room k X.A) : X.A.units + 16 < cLine := u64 hr (by decide)
theorem key_at {G H : Hp} {v : V} (ht : TupK α) (hd : Datum.depth α ≤ 8) (hs : Same G H) (r : RepS G v (En q)) (hW : (DicA X.prog X.w d D).p G H) : ∃ bq xs, v = .ref bq ∧ EntR G xs D ∧ KeyAt X.prog X.w H (.ref d) v (Datum.toD q) d bq xs := by
  obtain ⟨bq, e, r2⟩ := rp_tup ht r
  obtain ⟨lk, xs, h2, h3⟩ := hW
  exact ⟨bq, xs, e, h3, rfl, e, ⟨lk, h2⟩, G, hs, r2, Keyed.ok q, Nat.le_trans (keyD_depth _) (Nat.le_trans (Datum.depth_le _) hd), h3.ents hd⟩
/-- d.get(k) -/
theorem de_nget [SomeDatum β] (hr : Room k X.A) (ho : DE X W o ρ (.v (.ref d))) (ha : DE X W a ρ (En q)) (hW : ∀ G H, Same G H → W.p G H → (DicA X.prog X.w d D).p G H) (ht : TupK α := by exact fun _ => ⟨_, rfl⟩) (hd : Datum.depth α ≤ 8 := by decide)
    (hb : attributeBase o "get" X.env (eval o X.env) = eval o X.env := by rfl) (hst : starEach [a] X.env = (false, eval a X.env) :: starEach [] X.env := by rfl) (hl : (apos.endLine == cpos.line) = true := by rfl)
    (hfew : ((backTo cpos (starEach [a] X.env)).all (fun x => !x.1) && (backToKw cpos (keywordEach [] X.env)).all (fun x => x.1.isSome)
      && decide ([a].length + ([] : List Keyword).length + (if ([] : List Keyword).isEmpty then 0 else 1) < 30)) = true := by rfl) (hpl : (backTo cpos (starEach [] X.env)).any (·.1) = false := by rfl) : DE X W (.Call (.Attribute o "get" apos) [a] [] cpos) ρ (En (lookN D q)) :=
  pe_imp (pe_nget (u16 hr) ho (da_cons ha da_nil hst) hb hfew hl hst hpl) fun σ H Q ⟨G, c, kk⟩ => ⟨G, c, fun x G1 H1 g1 r1 => by
    have ex : x = .ref d := r1
    subst ex
    have c1 := c.step g1
    obtain ⟨lk, xs, w2, w3⟩ := hW G1 H1 c1.s c1.w
    refine ⟨⟨d, lk, xs, G1, rfl, w2, c1.s, w3.ents hd⟩, G1, c1, fun vs G2 H2 g2 r2 => ?_⟩
    cases r2 with
    | cons rq t =>
      cases t
      have c2 := c1.step g2
      obtain ⟨bq, xs2, e, h3, hk⟩ := key_at ht hd c2.s rq (hW G2 H2 c2.s c2.w)
      subst e
      refine ⟨d, bq, Datum.toD q, xs2, .non, hk, .inl ⟨rfl, rfl⟩, ?_⟩
      rcases h3.at (k := q) with ⟨e1, e2⟩ | ⟨p, y, v, e1, e2, e3, e4⟩
      · rw [e1]
        rw [e2] at kk
        exact ⟨.non, rfl, kk _ G2 H2 (g1.trans g2) .non⟩
      · rw [e1]
        rw [e2] at kk
        exact ⟨v, e4, kk _ G2 H2 (g1.trans g2) e3⟩⟩
/-- d.get(k, z) -/
theorem de_ngetO {z : β} (hr : Room k X.A) (ho : DE X W o ρ (.v (.ref d))) (ha : DE X W a ρ (En q)) (hz : DE X W b ρ (En z)) (hW : ∀ G H, Same G H → W.p G H → (DicA X.prog X.w d D).p G H) (ht : TupK α := by exact fun _ => ⟨_, rfl⟩) (hd : Datum.depth α ≤ 8 := by decide)
    (hb : attributeBase o "get" X.env (eval o X.env) = eval o X.env := by rfl) (hst : starEach [a, b] X.env = (false, eval a X.env) :: starEach [b] X.env := by rfl) (hst2 : starEach [b] X.env = (false, eval b X.env) :: starEach [] X.env := by rfl) (hl : (apos.endLine == cpos.line) = true := by rfl)
    (hfew : ((backTo cpos (starEach [a, b] X.env)).all (fun x => !x.1) && (backToKw cpos (keywordEach [] X.env)).all (fun x => x.1.isSome)
      && decide ([a, b].length + ([] : List Keyword).length + (if ([] : List Keyword).isEmpty then 0 else 1) < 30)) = true := by rfl) (hpl : (backTo cpos (starEach [b] X.env)).any (·.1) = false := by rfl) : DE X W (.Call (.Attribute o "get" apos) [a, b] [] cpos) ρ (En ((lookN D q).getD z)) :=
  pe_imp (pe_nget (u16 hr) ho (da_cons ha (da_cons hz da_nil hst2) hst) hb hfew hl hst hpl) fun σ H Q ⟨G, c, kk⟩ => ⟨G, c, fun x G1 H1 g1 r1 => by
    have ex : x = .ref d := r1
    subst ex
    have c1 := c.step g1
    obtain ⟨lk, xs, w2, w3⟩ := hW G1 H1 c1.s c1.w
    refine ⟨⟨d, lk, xs, G1, rfl, w2, c1.s, w3.ents hd⟩, G1, c1, fun vs G2 H2 g2 r2 => ?_⟩
    cases r2 with
    | cons rq t =>
      cases t with
      | cons rz t =>
        cases t
        have c2 := c1.step g2
        obtain ⟨bq, xs2, e, h3, hk⟩ := key_at ht hd c2.s rq (hW G2 H2 c2.s c2.w)
        subst e
        refine ⟨d, bq, Datum.toD q, xs2, _, hk, .inr rfl, ?_⟩
        rcases h3.at (k := q) with ⟨e1, e2⟩ | ⟨p, y, v, e1, e2, e3, e4⟩
        · rw [e1]
          rw [e2] at kk
          exact ⟨_, rfl, kk _ G2 H2 (g1.trans g2) rz⟩
        · rw [e1]
          rw [e2] at kk
          exact ⟨v, e4, kk _ G2 H2 (g1.trans g2) e3⟩⟩
/-- k in d -/
theorem de_nin (hr : Room k X.A) (ha : DE X W a ρ (En q)) (ho : DE X W o ρ (.v (.ref d))) (hW : ∀ G H, Same G H → W.p G H → (DicA X.prog X.w d D).p G H) (ht : TupK α := by exact fun _ => ⟨_, rfl⟩) (hd : Datum.depth α ≤ 8 := by decide) (hm : behindInMarks .In o = false := by rfl) : DE X W (.Compare a [.In] [o] pos) ρ (En (lookN D q).isSome) :=
  pe_imp (pe_cmpR (or_nin (u16 hr)) ha ho hm) fun σ H Q ⟨G, c, kk⟩ => ⟨G, c, fun y G1 H1 g1 r1 => ⟨G1, c.step g1, fun x G2 H2 g2 r2 => by
    have ex : x = .ref d := r2
    subst ex
    have c2 := (c.step g1).step g2
    obtain ⟨bq, xs2, e, h3, hk⟩ := key_at ht hd c2.s (r1.mono g2.g) (hW G2 H2 c2.s c2.w)
    subst e
    refine ⟨d, bq, Datum.toD q, xs2, hk, ?_⟩
    rcases h3.at (k := q) with ⟨e1, e2⟩ | ⟨p, y, v, e1, e2, e3, e4⟩
    · rw [e1]
      rw [e2] at kk
      exact kk _ G2 H2 (g1.trans g2) (.bl _)
    · rw [e1]
      rw [e2] at kk
      exact kk _ G2 H2 (g1.trans g2) (.bl _)⟩⟩
/-- d[k] -/
theorem de_nat {y0 : β} (hr : Room k X.A) (ho : DE X W o ρ (.v (.ref d))) (ha : DE X W a ρ (En q)) (hW : ∀ G H, Same G H → W.p G H → (DicA X.prog X.w d D).p G H) (hy : lookN D q = some y0) (ht : TupK α := by exact fun _ => ⟨_, rfl⟩) (hd : Datum.depth α ≤ 8 := by decide) (hs : NoSl a := by intro _ _; rfl) : DE X W (.Subscript o a pos) ρ (En y0) :=
  pe_imp (pe_nat (u16 hr) ho ha hs) fun σ H Q ⟨G, c, kk⟩ => ⟨G, c, fun x G1 H1 g1 r1 => ⟨G1, c.step g1, fun y G2 H2 g2 r2 => by
    have ex : x = .ref d := r1
    subst ex
    have c2 := (c.step g1).step g2
    obtain ⟨bq, xs2, e, h3, hk⟩ := key_at ht hd c2.s r2 (hW G2 H2 c2.s c2.w)
    subst e
    refine ⟨d, bq, Datum.toD q, xs2, hk, ?_⟩
    rcases h3.at (k := q) with ⟨e1, e2⟩ | ⟨p, y, v, e1, e2, e3, e4⟩
    · rw [e2] at hy
      cases hy
    · rw [e2] at hy
      cases hy
      exact ⟨p, v, e1, e4, kk _ G2 H2 (g1.trans g2) e3⟩⟩⟩
end
section
variable {X : Cx} {G0 H0 G1 : Hp} {A W : Res} {ρ : Ro} {E : Ends} {pos pos' fp : Pos} {o a val : Expr} {rest : List Stmt} {d : Addr} {D : List (α × β)} {q : α} {y : β} {k : Nat}
/-- d[k] = v -/
theorem d_nput (hr : Room k X.A) (hF : Frm A d) (h0 : H0 d = none) (hl : D.length < 1000000) (ho : DE X (A.and (DicN X.prog X.w d D)) o ρ (.v (.ref d))) (ha : DE X (A.and (DicN X.prog X.w d D)) a ρ (En q)) (hv : DE X (A.and (DicN X.prog X.w d D)) val ρ (En y))
    (kk : DSs X rest (At G0 H0 G1 (A.and (DicN X.prog X.w d (putN D q y))) ρ) E) (ht : TupK α := by exact fun _ => ⟨_, rfl⟩) (hd : Datum.depth α ≤ 8 := by decide) (hs : swapsWith val (some (.Subscript o a pos')) pos.line X.env = pure false := by rfl) : DSs X (.Assign [.Subscript o a pos'] val pos :: rest) (At G0 H0 G1 (A.and (DicN X.prog X.w d D)) ρ) E := by
  refine d_cons (dst_of (ps_nput (u16 hr) ho ha hv hs) fun σ H ⟨G, g, q0, c⟩ => ⟨G, c, fun v G2 H2 g2 r2 => ⟨G2, c.step g2, fun x G3 H3 g3 r3 => ⟨G3, (c.step g2).step g3, fun z G4 H4 g4 r4 => ?_⟩⟩⟩) kk
  have ex : x = .ref d := r3
  subst ex
  have c4 := ((c.step g2).step g3).step g4
  have g24 := g3.g.trans g4.g
  obtain ⟨bq, xs2, e, h3, hk⟩ := key_at ht hd c4.s r4 c4.w.2.2
  subst e
  obtain ⟨hA, hdG, lk3, xs3, hdH, h33⟩ := c4.w
  refine ⟨d, bq, Datum.toD q, xs2, hk, by rw [h3.len, sizeLine_eq]; omega, fun r hrel => ⟨G4, anchor_upd (((g.trans g2).trans g3).trans g4) h0 hdG, ((q0.trans g2.g).trans g3.g).trans g4.g, fun b o z => ?_, ⟨hF _ _ _ c4.s hdG hA, hdG, none, _, upd_same, ?_⟩, c4.e⟩⟩
  · rw [upd_ne (ne_of_none z hdG)]
    exact c4.s b o z
  · obtain ⟨b2, e2, rq⟩ := rp_tup ht r4
    cases e2
    exact h3.put rq (rp_mono g24 _ _ (show Rp G2 v (Datum.toD y) from r2)) hrel
/-- x = {} -/
theorem d_newN {i : Nat} {x : Str} {p' : Pos} (hN : X.N.Nodup) (kk : ∀ d, H0 d = none → G1 d = none → (∀ q : Addr, (∀ G H, Same G H → W.p G H → ∃ o, H q = some o) → q ≠ d) → DSs X rest (At G0 H0 G1 (W.and (DicN X.prog X.w d ([] : List (α × β)))) (ρ.set i (some (.v (.ref d))))) E) (hi : X.N[i]? = some x := by rfl) (hx : Loc X.env.scope x := by first | exact Or.inl rfl | exact Or.inr rfl)
    (hs : swapsWith (.Dict [] [] fp) (some (.Name x p')) pos.line X.env = pure false := by rfl) (hf : X.fn x = true ∨ X.env.scope.names.lookup x = some .local := by first | exact Or.inl rfl | exact Or.inr rfl) : DSs X (.Assign [.Name x p'] (.Dict [] [] fp) pos :: rest) (At G0 H0 G1 W ρ) E := by
  refine d_cons (M := fun σ H => ∃ d, (H0 d = none ∧ G1 d = none ∧ ∀ q : Addr, (∀ G H, Same G H → W.p G H → ∃ o, H q = some o) → q ≠ d) ∧ At G0 H0 G1 (W.and (DicN X.prog X.w d ([] : List (α × β)))) (ρ.set i (some (.v (.ref d)))) σ H) ?_ (d_ex fun d => d_and fun h => kk d h.1 h.2.1 h.2.2)
  refine dst_of (ps_set hN hi hx pe_dnewO hs hf) fun σ H ⟨G, g, q, c⟩ => fun d hd => ?_
  have gd : G d = none := c.s.free hd
  have g1 : Gw G H G (upd H d (DicO X.prog X.w d none [])) := .heap c.s (same_upd hd)
  have c1 := c.step g1
  exact ⟨d, ⟨g.h.free hd, q.free gd, fun z hz e => by
    obtain ⟨u, hu⟩ := hz G H c.s c.w
    rw [e, hd] at hu
    cases hu⟩, G, g.trans g1, q, c1.s, ⟨c1.w, gd, none, [], upd_same, .nil⟩, c1.e.set (s := .v (.ref d)) (v := .ref d) rfl i⟩
/-- o.f = {} -/
theorem d_attEN {C p : Addr} {fs : List (Str × Sl)} {f : Str} (cl : Cls X.K C) (nf : NoAttr X.K C f) (hF : ∀ q, (∀ G H, Same G H → (A.and (InsD C p fs)).p G H → ∃ o, H q = some o) → q = q) (hFp : Frm A p) (h0 : H0 p = none) (ho : ∀ W', DE X W' o ρ (.v (.ref p)))
    (kk : ∀ d, H0 d = none → G1 d = none → d ≠ p → (∀ q : Addr, (∀ G H, Same G H → (A.and (InsD C p fs)).p G H → ∃ o, H q = some o) → q ≠ d) → DSs X rest (At G0 H0 G1 ((A.and (InsD C p (putS f (.v (.ref d)) fs))).and (DicN X.prog X.w d ([] : List (α × β)))) ρ) E) (hl : fs.length < 1000 := by decide) (hs : swapsWith (.Dict [] [] fp) (some (.Attribute o f pos')) pos.line X.env = pure false := by rfl) : DSs X (.Assign [.Attribute o f pos'] (.Dict [] [] fp) pos :: rest) (At G0 H0 G1 (A.and (InsD C p fs)) ρ) E := by
  refine d_cons (M := fun σ H => ∃ d, (H0 d = none ∧ G1 d = none ∧ d ≠ p ∧ ∀ q : Addr, (∀ G H, Same G H → (A.and (InsD C p fs)).p G H → ∃ o, H q = some o) → q ≠ d) ∧ At G0 H0 G1 ((A.and (InsD C p (putS f (.v (.ref d)) fs))).and (DicN X.prog X.w d ([] : List (α × β)))) ρ σ H) ?_ (d_ex fun d => d_and fun h => kk d h.1 h.2.1 h.2.2.1 h.2.2.2)
  refine dst_of (ps_fld (ho R0) pe_dnewO hs) fun σ H ⟨G, g, q0, c⟩ => fun d hd => ?_
  obtain ⟨hA, hg, dx, gs, hH, hfs⟩ := c.w
  have gd : G d = none := c.s.free hd
  have ne : d ≠ p := fun e => by
    rw [e, hH] at hd
    cases hd
  have g1 : Gw G H G (upd H d (DicO X.prog X.w d none [])) := .heap c.s (same_upd hd)
  have c1 := c.step g1
  refine ⟨G, ⟨c1.s, trivial, c.e⟩, fun x G3 H3 g3 r3 => ?_⟩
  have ex : x = .ref p := r3
  subst ex
  have c3 := c1.step g3
  obtain ⟨hA3, hg3, dx3, gs3, hH3, hfs3⟩ := c3.w
  have gd3 : G3 d = none := g3.nosh upd_same (fun _ z => by unfold DicO at z; cases z) gd
  refine ⟨p, C, dx3, gs3, rfl, hH3, cl, nf, by rw [hfs3.length]; exact hl, d, ⟨g.h.free hd, q0.free gd, ne, fun z hz e => ?_⟩, G3, anchor_upd ((g.trans g1).trans g3) h0 hg3, (q0.trans g1.g).trans g3.g, fun b o z => ?_, ⟨⟨hFp _ _ _ c3.s hg3 hA3, hg3, dx3, _, upd_same, hfs3.put (v := .ref d) (s := .v (.ref d)) (show V.ref d = V.ref d from rfl)⟩, gd3, none, [], ?_, .nil⟩, c3.e⟩
  · obtain ⟨u, hu⟩ := hz G H c.s c.w
    rw [e, hd] at hu
    cases hu
  · rw [upd_ne (ne_of_none z hg3)]
    exact c3.s b o z
  · rw [upd_ne ne]
    exact g3.h d _ upd_same
end
end
end DL

/-! DL29: parts of tuples, tuple + tuple, a dict of texts whose values are lists of one's own. -/
namespace DL
open PySem PySem.Spec L2
open PyProof.Rows hiding St
open PySem.W (Datum DatumOrd Tup T3 Holds HoldAll EachIs SomeDatum)
section
variable {X : Cx} {W : Res} {ρ : Ro} {pos p2 : Pos} {a b o i : Expr} {d : Addr} {k : Nat}
theorem cutL_whole {α : Type} {xs : List α} {l u : Option Int} (h : HT.sIx xs.length 0 l = 0 ∧ HT.sIx xs.length xs.length u = xs.length) : cutL xs l u = xs := by
  unfold cutL
  rw [h.1, h.2, Nat.sub_zero, List.drop_zero, List.take_length]
/-- a part of a tuple -/
theorem de_slT {ds : List PyData} {lo hi : Option Expr} {l u : Option Int} (ha : DE X W a ρ (.d (.tuple ds))) (hl : DO X W lo ρ l) (hu : DO X W hi ρ u) : DE X W (.Subscript a (.Slice lo hi none p2) pos) ρ (.d (.tuple (cutL ds l u))) :=
  pe_imp (pe_slice sl_tupA ha hl hu) fun σ H Q ⟨G, c, kk⟩ => ⟨G, c, fun v G1 H1 g1 r1 => by
    cases r1 with
    | tup h1 h2 =>
      rename_i va xs
      refine ⟨G1, c.step g1, fun G2 H2 g2 => ⟨G2, (c.step g1).step g2, fun G3 H3 g3 => ?_⟩⟩
      have c3 := ((c.step g1).step g2).step g3
      have h13 := g2.g.trans g3.g
      refine ⟨va, xs, rfl, .inl (.inl (c3.s _ _ (h13 _ _ h1))), fun hw => ?_, fun hw q hq => ?_⟩
      · rw [h2.length] at hw
        rw [cutL_whole hw] at kk
        exact kk _ G3 H3 ((g1.trans g2).trans g3) (.tup (h13 _ _ h1) (rpAll_mono h13 _ _ h2))
      · have g4 := Gw.new (o := .tup (cutV xs l u)) c3.s hq
        exact kk _ _ _ (((g1.trans g2).trans g3).trans g4) (.tup upd_same (rpAll_mono (h13.trans g4.g) _ _ (h2.cut l u)))⟩
/-- t + u -/
theorem de_catT {ds es : List PyData} (ha : DE X W a ρ (.d (.tuple ds))) (hb : DE X W b ρ (.d (.tuple es))) (hl : ds.length + es.length ≤ 1000000) : DE X W (.BinOp a .Add b pos) ρ (.d (.tuple (ds ++ es))) :=
  pe_imp (pe_op op_catA ha hb) fun σ H Q ⟨G, c, kk⟩ => ⟨G, c, fun v G1 H1 g1 r1 => ⟨G1, c.step g1, fun y G2 H2 g2 r2 => by
    cases r1 with
    | tup h1 h2 =>
      cases r2 with
      | tup k1 k2 =>
        rename_i va xs vb ys
        have c2 := (c.step g1).step g2
        refine ⟨_, _, _, _, rfl, rfl, .inl (.inl (c2.s _ _ (g2.g _ _ h1))), .inl (.inl (c2.s _ _ k1)), by rw [h2.length, k2.length, sizeLine_eq]; omega, fun e => ?_, fun _ e => ?_, fun _ _ q hq => ?_⟩
        · subst e
          cases h2
          exact kk _ G2 H2 (g1.trans g2) (.tup k1 k2)
        · subst e
          cases k2
          rw [List.append_nil] at kk
          exact kk _ G2 H2 (g1.trans g2) (.tup (g2.g _ _ h1) (rpAll_mono g2.g _ _ h2))
        · have g4 := Gw.new (o := .tup (xs ++ ys)) c2.s hq
          exact kk _ _ _ ((g1.trans g2).trans g4) (.tup upd_same ((rpAll_mono (g2.g.trans g4.g) _ _ h2).append (rpAll_mono g4.g _ _ k2)))⟩⟩
/-- the dict d of texts -/
def DKR (d : Addr) (kvs : List (Key × V)) : Res := ⟨fun G H => G d = none ∧ H d = some (.dK kvs), fun s g ⟨h1, h2⟩ => ⟨g.nosh h2 (fun _ z => nomatch z) h1, g.h d _ h2⟩⟩
theorem frc_dk {d' : Addr} {kvs : List (Key × V)} {ds : List Addr} (h : d' ∉ ds) : Frc (DKR d' kvs) ds := fun G H s g ⟨h1, h2⟩ => ⟨h1, by rw [cut_ne h]; exact h2⟩
theorem frm_dk {d q : Addr} {kvs : List (Key × V)} (h : d ≠ q) : Frm (DKR d kvs) q := frm_frc (frc_dk fun z => h (List.mem_singleton.mp z))
theorem frz_dk {d q : Addr} {kvs : List (Key × V)} (h : d ≠ q) : Frz (DKR d kvs) q := fun G H o hs hp g ⟨h1, h2⟩ => ⟨by rw [upd_ne h]; exact h1, h2⟩
/-- d[text] -/
theorem de_dk {kvs : List (Key × V)} {t : Str} {v : V} (hr : Room k X.A) (ho : DE X W o ρ (.v (.ref d))) (hi : DE X W i ρ (En t)) (hW : ∀ G H, Same G H → W.p G H → (DKR d kvs).p G H) (hv : valV kvs (.inr t) = some v) (hs : NoSl i := by intro _ _; rfl) : DE X W (.Subscript o i pos) ρ (.v v) :=
  pe_imp (pe_dget (hu_of hr) ho hi hs) fun σ H Q ⟨G, c, kk⟩ => ⟨G, c, fun x G1 H1 g1 r1 => ⟨G1, c.step g1, fun y G2 H2 g2 r2 => by
    have ex : x = .ref d := r1
    subst ex
    cases r2
    have c2 := (c.step g1).step g2
    refine ⟨d, v, rfl, ?_, kk v G2 H2 (g1.trans g2) rfl⟩
    have q := DGet.k (k := .inr t) (hW G2 H2 c2.s c2.w).2
    rw [hv] at q
    exact q⟩⟩
end
section
variable {X : Cx} {G0 H0 G1 : Hp} {A W : Res} {ρ : Ro} {E : Ends} {pos pos' fp p3 : Pos} {o a val k1 k2 v1 v2 : Expr} {rest : List Stmt} {d : Addr} {k : Nat}
/-- d[text] = a new list -/
theorem d_dkN {kvs : List (Key × V)} {t : Str} {ds : List PyData} (hr : Room k X.A) (hF : Frm A d) (h0 : H0 d = none) (hl : kvs.length < 1000) (ho : DE X (A.and (DKR d kvs)) o ρ (.v (.ref d))) (ha : DE X (A.and (DKR d kvs)) a ρ (En t)) (hv : DN X (A.and (DKR d kvs)) val ρ ds)
    (kk : ∀ c, H0 c = none → G1 c = none → c ≠ d → (∀ q : Addr, (∀ G H, Same G H → (A.and (DKR d kvs)).p G H → ∃ o, H q = some o) → q ≠ c) → DSs X rest (At G0 H0 G1 ((A.and (DKR d (putK kvs (.inr t) (.ref c)))).and (Own c ds)) ρ) E) (hs : swapsWith val (some (.Subscript o a pos')) pos.line X.env = pure false := by rfl) : DSs X (.Assign [.Subscript o a pos'] val pos :: rest) (At G0 H0 G1 (A.and (DKR d kvs)) ρ) E := by
  refine d_cons (M := fun σ H => ∃ c, (H0 c = none ∧ G1 c = none ∧ c ≠ d ∧ ∀ q : Addr, (∀ G H, Same G H → (A.and (DKR d kvs)).p G H → ∃ o, H q = some o) → q ≠ c) ∧ At G0 H0 G1 ((A.and (DKR d (putK kvs (.inr t) (.ref c)))).and (Own c ds)) ρ σ H) ?_ (d_ex fun c => d_and fun h => kk c h.1 h.2.1 h.2.2.1 h.2.2.2)
  refine dst_of (ps_dput (hu_of hr) ho ha hv hs) fun σ H ⟨G, g, q0, c⟩ => ⟨G, c, fun p xs G2 H2 g2 hp hpg hpl hxs => ⟨G2, c.step g2, fun x G3 H3 g3 r3 => ⟨G3, (c.step g2).step g3, fun y G4 H4 g4 r4 => ?_⟩⟩⟩
  have ex : x = .ref d := r3
  subst ex
  cases r4
  have c4 := ((c.step g2).step g3).step g4
  have g24 := g3.trans g4
  obtain ⟨hA, hdG, hdH⟩ := c4.w
  have hp4 : H4 p = some (.lst xs) := g24.h _ _ hpl
  have ne : p ≠ d := fun e => by
    rw [e] at hp
    rw [c.w.2.2] at hp
    cases hp
  refine ⟨d, _, rfl, DPut.k (k := .inr t) hdH (by rw [sizeLine_eq]; omega), p, ⟨g.h.free hp, (q0.trans g2.g).free hpg, ne, fun z hz e => ?_⟩, G4, anchor_upd ((g.trans g2).trans g24) h0 hdG, (q0.trans g2.g).trans g24.g, fun b o z => ?_, ⟨⟨hF _ _ _ c4.s hdG hA, hdG, upd_same⟩, g24.nosh hpl (fun _ z => nomatch z) hpg, xs, ?_, rpAll_mono g24.g _ _ hxs⟩, c4.e⟩
  · obtain ⟨u, hu⟩ := hz G H c.s c.w
    rw [e, hp] at hu
    cases hu
  · rw [upd_ne (ne_of_none z hdG)]
    exact c4.s b o z
  · rw [upd_ne ne]
    exact hp4
/-- x = {t: [], u: []} -/
theorem d_left2 {i : Nat} {x : Str} {p' : Pos} {s1 s2 : Str} (hN : X.N.Nodup) (h1 : DE X R0 k1 ρ (En s1)) (n1 : DN X R0 v1 ρ []) (h2 : DE X R0 k2 ρ (En s2)) (n2 : DN X R0 v2 ρ []) (ne : s1 ≠ s2)
    (kk : ∀ d a b, (H0 d = none ∧ H0 a = none ∧ H0 b = none) → (G1 d = none ∧ G1 a = none ∧ G1 b = none) → (d ≠ a ∧ d ≠ b ∧ a ≠ b) → (∀ q : Addr, (∀ G H, Same G H → W.p G H → ∃ o, H q = some o) → q ≠ d ∧ q ≠ a ∧ q ≠ b) → DSs X rest (At G0 H0 G1 (((W.and (DKR d [(.inr s1, .ref a), (.inr s2, .ref b)])).and (Own a [])).and (Own b [])) (ρ.set i (some (.v (.ref d))))) E) (hi : X.N[i]? = some x := by rfl) (hx : Loc X.env.scope x := by first | exact Or.inl rfl | exact Or.inr rfl)
    (hs : swapsWith (.Dict [some k1, some k2] [v1, v2] fp) (some (.Name x p')) pos.line X.env = pure false := by rfl) (hf : X.fn x = true ∨ X.env.scope.names.lookup x = some .local := by first | exact Or.inl rfl | exact Or.inr rfl) : DSs X (.Assign [.Name x p'] (.Dict [some k1, some k2] [v1, v2] fp) pos :: rest) (At G0 H0 G1 W ρ) E := by
  refine d_cons (M := fun σ H => ∃ d a b, ((H0 d = none ∧ H0 a = none ∧ H0 b = none) ∧ (G1 d = none ∧ G1 a = none ∧ G1 b = none) ∧ (d ≠ a ∧ d ≠ b ∧ a ≠ b) ∧ ∀ q : Addr, (∀ G H, Same G H → W.p G H → ∃ o, H q = some o) → q ≠ d ∧ q ≠ a ∧ q ≠ b) ∧ At G0 H0 G1 (((W.and (DKR d [(.inr s1, .ref a), (.inr s2, .ref b)])).and (Own a [])).and (Own b [])) (ρ.set i (some (.v (.ref d)))) σ H) ?_ (d_ex fun d => d_ex fun a => d_ex fun b => d_and fun h => kk d a b h.1 h.2.1 h.2.2.1 h.2.2.2)
  refine dst_of (ps_set hN hi hx (pe_disp (pps_cons h1 n1 (pps_cons h2 n2 pps_nil)) rfl rfl (by simp) (by show 2 ≤ 15; decide)) hs hf) fun σ H ⟨G, g, q, c⟩ => fun d hd => ?_
  have gd : G d = none := c.s.free hd
  have g1 : Gw G H G (upd H d (.dK [])) := .heap c.s (same_upd hd)
  have c1 : Cxt R0 ρ G σ (upd H d (.dK [])) := ⟨(c.step g1).s, trivial, c.e⟩
  refine ⟨G, c1, fun y1 Ga Ha ga ra => ⟨Ga, c1.step ga, fun a xa Gb Hb gb ha hag hal hxa => ⟨Gb, (c1.step ga).step gb, fun y2 Gc Hc gc rc => ⟨Gc, ((c1.step ga).step gb).step gc, fun b xb Gd Hd ge hb hbg hbl hxb => ?_⟩⟩⟩⟩
  cases ra
  cases rc
  cases hxa
  cases hxb
  have gt := ((ga.trans gb).trans gc).trans ge
  have c5 := (((c1.step ga).step gb).step gc).step ge
  have hdd : Hd d = some (.dK []) := gt.h _ _ upd_same
  have gdd : Gd d = none := gt.nosh upd_same (fun _ z => nomatch z) gd
  have haa : Hd a = some (.lst []) := (gc.trans ge).h _ _ hal
  have gaa : Gd a = none := (gc.trans ge).nosh hal (fun _ z => nomatch z) hag
  have nda : d ≠ a := fun e => by
    have q1 := ga.h d _ upd_same
    rw [e, ha] at q1
    cases q1
  have ndb : d ≠ b := fun e => by
    have q1 := ((ga.trans gb).trans gc).h d _ upd_same
    rw [e, hb] at q1
    cases q1
  have nab : a ≠ b := fun e => by
    have q1 := gc.h a _ hal
    rw [e, hb] at q1
    cases q1
  have fa : H a = none := g1.h.free (ga.h.free ha)
  have fb : H b = none := g1.h.free (ga.h.free (gb.h.free (gc.h.free hb)))
  refine ⟨hdd, [(.inr s1, .ref a), (.inr s2, .ref b)], rfl, by show 2 ≤ 15; decide, ?_⟩
  have em : mergeK [] [((.inr s1 : Key), V.ref a), (.inr s2, .ref b)] = [(.inr s1, .ref a), (.inr s2, .ref b)] := by
    have ne' : ¬ (Sum.inr s1 : Key) = .inr s2 := fun z => ne (Sum.inr.inj z)
    simp [mergeK, putK, ne, ne']
  rw [em]
  have c6 : Cxt W ρ Gd σ Hd := (c.step g1).step gt
  refine ⟨d, a, b, ⟨⟨g.h.free hd, g.h.free fa, g.h.free fb⟩, ⟨q.free gd, (q.trans (c.s)).free fa, (q.trans c.s).free fb⟩, ⟨nda, ndb, nab⟩, fun z hz => ?_⟩, Gd, ?_, q.trans gt.g, ?_, ?_, ?_⟩
  · obtain ⟨u, hu⟩ := hz G H c.s c.w
    exact ⟨fun e => (by rw [e, hd] at hu; cases hu), fun e => (by rw [e, fa] at hu; cases hu), fun e => (by rw [e, fb] at hu; cases hu)⟩
  · exact anchor_upd ((g.trans g1).trans gt) (g.h.free hd) gdd
  · intro z u e
    rw [upd_ne (ne_of_none e gdd)]
    exact c6.s z u e
  · exact ⟨⟨⟨W.mono c.s (anchor_upd (g1.trans gt) hd gdd) c.w, gdd, upd_same⟩, gaa, [], by rw [upd_ne (Ne.symm nda)]; exact haa, .nil⟩, hbg, [], by rw [upd_ne (Ne.symm ndb)]; exact hbl, .nil⟩
  · exact c6.e.set (s := .v (.ref d)) (v := .ref d) rfl i
end
end DL

/-! DL30: sorted of a tuple, tuple of a list, dicts of pairs put again, hunts. -/
namespace DL
open PySem PySem.Spec L2
open PyProof.Rows hiding St
open PySem.W (Datum DatumOrd Tup T3 Holds HoldAll EachIs SomeDatum)
section
open PySem.W
variable {prog : Program} {w : World} {A : Around} {E : Value → Shared → Prop} {s : Shared} {β : Type} {vs : List Value} {bs : List β} {enc : β → PyData} {R : Value → β → Prop}
/-- sorted(t), t a tuple -/
theorem sorted_tup {t : Addr} {Q : Value → Shared → Prop} (hl : IsTup s.heap t vs.toArray) (e : EachIs R vs bs) (er : EachIs (fun v b => ∃ as, Reads s.heap v (enc b) as) vs bs) (hal : AllAlike (bs.map enc)) (hk : Sortable (bs.map enc)) (hL : bs.length ≤ sizeLine)
    (hu : ∀ b, b ∈ bs → A.units + 2 + (enc b).depth < cLine) (h : ∀ (out : List Value) (c : Nat) (h1 h' : Heap), (∀ b o, s.heap.get? b = some o → h1.get? b = some o) → (∀ b o, h1.get? b = some o → h'.get? b = some o) → h'.get? h1.objs.size = some (seqObj "list" out.toArray c) → out.length = bs.length → EachIs R out (bs.mergeSort (dataLe false enc)) → Q (.ref h1.objs.size) { s with heap := h' }) :
    wpAny (model prog w) A (call (.builtin "sorted") [.ref t]) Q E s := by
  have hvl : vs.length ≤ sizeLine := by rw [e.length]; exact hL
  refine Calls.call_function_entry kind_sorted plain_sorted entry_sorted (args_sorted1 _) ?_
  unfold Builtin.«sorted»
  refine wpAny_bind (m := checkCount "sorted" 1 1 _) (wpAny_pure ?_)
  obtain ⟨o, ho, hc, n, hd⟩ := hl
  refine wpAny_bind (wpAny_collect_seq (hsz := by rw [List.size_toArray]; exact hvl) t (.inr rfl) ho hc hd fun h1 k1 => ?_)
  rw [List.toList_toArray]
  refine wpAny_bind (wpAny_newList ?_ hvl)
  have hoL : (h1.push (seqObj "list" vs.toArray 0)).get? h1.objs.size = some (seqObj "list" vs.toArray 0) := Heap.get?_push_size _ rfl
  have old : ∀ b u, s.heap.get? b = some u → (h1.push (seqObj "list" vs.toArray 0)).get? b = some u := fun b u q => Heap.get?_push_of_some _ (k1 b u q)
  have hlt : ∀ b u, s.heap.get? b = some u → b < h1.objs.size := fun b u q => Heap.lt_size (k1 b u q)
  have old1 : ∀ b u, h1.get? b = some u → (h1.push (seqObj "list" vs.toArray 0)).get? b = some u := fun b u q => Heap.get?_push_of_some _ q
  have er' : EachIs (fun v b => ∃ as, Reads (sortingHeap (h1.push (seqObj "list" vs.toArray 0)) h1.objs.size vs) v (enc b) as) vs bs := er.mono fun _ _ ⟨as, r⟩ => ⟨as, PyProof.Rows.Reads.keeps (fun b u q => sortingHeap_old (Nat.ne_of_lt (hlt b u q)) (old b u q)) r⟩
  refine wpAny_bind (wpAny_holding (wpAny_call_entry_kw slot_list_sort ⟨_, hoL, rfl⟩ entry_list_sort ?body (args_list_sort _)))
  case body =>
    obtain ⟨c, hcc⟩ := sortedHeap_at (out := (sortVals (dataKind (sortingHeap (h1.push (seqObj "list" vs.toArray 0)) h1.objs.size vs) (bs.map enc)) false vs vs).toArray) hoL
    refine list_sort_vals (s := { s with heap := h1.push (seqObj "list" vs.toArray 0) }) hoL (SortsAt.data (each_map (R := fun v d => ∃ as, Reads (sortingHeap (h1.push (seqObj "list" vs.toArray 0)) h1.objs.size vs) v d as) enc er') hal hk (bound_map (by intro b hb; have := hu b hb; simp only [Around.in1_units]; omega))) hvl ?_
    refine ⟨_, rfl, wpAny_pure ⟨_, rfl, ?_⟩⟩
    refine h _ c h1 _ k1 (fun b u q => ?_) hcc ?_ (sortVals_data false e er' hal)
    · rw [sortedHeap_old (Nat.ne_of_lt (Heap.lt_size q)) (by rw [size_push']; exact Nat.lt_succ_of_lt (Heap.lt_size q))]
      exact old1 b u q
    · rw [sortVals_length false rfl]
      exact e.length
end
section
variable {X : Cx} {W : Res} {ρ : Ro} {pos fp : Pos} {a : Expr} {k : Nat} {α : Type} [DecidableEq α] [DatumOrd α] {xs : List α}
def rSrtT (xs : List α) : List V → Hp → VK → Prop := fun vs H Q => ∃ G p ys, vs = [.ref p] ∧ Same G H ∧ H p = some (.tup ys) ∧ RpAll G ys (xs.map Datum.toD) ∧ ∀ l zs, H l = none → RpAll G zs ((srt xs).map Datum.toD) → Q (.ref l) (upd H l (.lst zs))
theorem cr_srtT (hso : PySem.W.Sortable (xs.map Datum.toD)) (hu : X.A.units + 2 + Datum.depth α < cLine) : CallR X (.builtin "sorted") (rSrtT xs) := by
  intro pins st σ H vs us Q I r h
  obtain ⟨G, p, ys, rfl, hs, h1, r1, q⟩ := h
  obtain ⟨u1, rfl, rx⟩ := vals1 r
  cases rx
  obtain ⟨its, rv, hT, z⟩ := I.tuple (.inl (.inl h1))
  have el := each_of r1 rv
  have hlen : its.length = xs.length := by rw [← rv.length, r1.length, List.length_map]
  refine sorted_tup (vs := its) (bs := xs) (enc := Datum.toD) hT el (el.mono fun u y ⟨v, rel, rp⟩ => rp_reads I _ _ _ (rp_mono hs _ _ rp) rel) (.of fun b b' => DatumOrd.alike b b') hso (by rw [← hlen, ← rv.length]; exact z)
    (fun b _ => by have := Datum.depth_le b; omega) fun out c h1' h' k1 kp hg ho he => ?_
  rw [srt_eq] at he
  obtain ⟨zs, rz, hz⟩ := of_each he
  have hzl : zs.length ≤ sizeLine := by
    rw [rz.length, ho, ← hlen, ← rv.length]
    exact z
  have I1 : Inv X pins σ H { st with heap := h1' } := I.kept (t' := st.toks) k1
  exact ⟨.ref h1'.objs.size, upd H h1'.objs.size (.lst zs), I1.laid (t' := st.toks) kp (Nat.le_refl _) ⟨hzl, out, c, rz, hg⟩, rfl, q _ zs (I1.hok.fresh (Nat.le_refl _)) hz⟩
/-- sorted(t) -/
theorem tn_srtT {t : Tup α} (hr : Room k X.A) (hm : X.mg "sorted" = none) (ha : DE X W a ρ (En t)) (ht : ∀ b : α, Datum.toD b ≠ .none ∧ ∀ xs, Datum.toD b ≠ .tuple xs := by exact fun _ => ⟨(fun z => nomatch z), fun _ z => nomatch z⟩) (hd : Datum.depth α ≤ 61 := by decide) (hg : Gl X "sorted" := by rfl) (sa : SA1 X a pos := by exact ⟨rfl, rfl⟩) :
    TN X W (.Call (.Name "sorted" fp) [a] [] pos) ρ (srt t.items) :=
  pe_imp (pe_callB (cr_srtT (xs := t.items) (.others ht) (u66 hr hd)) hg hm (by decide +kernel) (da_cons ha da_nil sa.h) (he := sa.h) (hpl := sa.b)) fun σ H Q ⟨G, c, q⟩ => ⟨G, c, fun vs G1 H1 g1 r1 => by
    cases r1 with
    | cons h t =>
      cases t
      have h' : Rp G1 _ (.tuple _) := h
      cases h' with
      | tup h2 h3 => exact ⟨G1, _, _, rfl, g1.i, g1.i _ _ h2, h3, fun l zs hl hz => q l zs G1 _ (g1.trans (.heap g1.i (same_upd hl))) (g1.h.free hl) (g1.i.free hl) upd_same hz⟩⟩
end
section
variable {X : Cx} {W : Res} {ρ : Ro} {pos fp : Pos} {a : Expr} {α : Type} [DecidableEq α] [Datum α] {xs : List α}
/-- tuple(xs) -/
theorem de_tupN (hm : X.mg "tuple" = none) (ha : TN X W a ρ xs) (hg : Gl X "tuple" := by rfl) (sa : SA1 X a pos := by exact ⟨rfl, rfl⟩) : DE X W (.Call (.Name "tuple" fp) [a] [] pos) ρ (En (Tup.mk xs)) :=
  pe_imp (pe_callTy call_tuple_of hg hm (by decide +kernel) (pa_cons ha pa_nil sa.h) (he := sa.h) (hpl := sa.b)) fun σ H Q ⟨G, c, q⟩ => ⟨G, c, fun p ys G1 H1 g1 h1 h2 h3 r1 => ⟨p, ys, rfl, .inl ⟨.inl (.inl h3), fun l hl => by
    have g2 := Gw.new (o := .tup ys) g1.i hl
    exact q _ _ _ (g1.trans g2) (.tup upd_same (rpAll_mono g2.g _ _ r1))⟩⟩⟩
end
/-! dicts keyed by pairs, put again -/
def addQ (q : Int × Int) (ps : List (Int × Int)) : List (Int × Int) := bif memB q ps then ps else ps ++ [q]
theorem put_ent2 {q : Int × Int} {ps : List (Int × Int)} : putK (ps.map ent) (pk q) (.bl true) = (addQ q ps).map ent := by
  unfold addQ
  cases h : memB q ps with
  | false => exact put_ent (memB_false.mp h)
  | true =>
    show putK (ps.map ent) (pk q) (.bl true) = ps.map ent
    have hs := val_ent q ps
    rw [h] at hs
    unfold putK
    rw [valV_any, hs, if_pos rfl, List.map_map]
    refine List.map_congr_left fun r _ => ?_
    show (if (ent r).1 = pk q then ((ent r).1, V.bl true) else ent r) = ent r
    split <;> rfl
section
variable {X : Cx} {G0 H0 G1 : Hp} {W A : Res} {ρ : Ro} {E : Ends} {pos fp : Pos} {e a o : Expr} {rest : List Stmt} {d : Addr} {ps : List (Int × Int)} {q : Int × Int} {k : Nat}
theorem d_dput2 {pos' : Pos} {val : Expr} (hr : Room k X.A) (hF : Frm A d) (h0 : H0 d = none) (hl : ps.length < 1000000) (ho : DE X (A.and (DicR d ps)) o ρ (.v (.ref d))) (ha : DE X (A.and (DicR d ps)) a ρ (En q)) (hv : DE X (A.and (DicR d ps)) val ρ (En true))
    (k : DSs X rest (At G0 H0 G1 (A.and (DicR d (addQ q ps))) ρ) E) (hs : swapsWith val (some (.Subscript o a pos')) pos.line X.env = pure false := by rfl) : DSs X (.Assign [.Subscript o a pos'] val pos :: rest) (At G0 H0 G1 (A.and (DicR d ps)) ρ) E := by
  refine d_cons (dst_of (ps_dput (hu_of hr) ho ha hv hs) fun σ H ⟨G, g, q0, c⟩ => ⟨G, c, fun v G2 H2 g2 r2 => ⟨G2, c.step g2, fun x G3 H3 g3 r3 => ⟨G3, (c.step g2).step g3, fun y G4 H4 g4 r4 => ?_⟩⟩⟩) k
  have ex : x = .ref d := r3
  subst ex
  cases r2
  obtain ⟨b, rfl, hb⟩ := rp_pair r4
  have c4 := ((c.step g2).step g3).step g4
  obtain ⟨hA, hd, hdT⟩ := c4.w
  refine ⟨d, _, rfl, DPut.t hdT (g4.i _ _ hb) (by rw [List.length_map, sizeLine_eq]; omega), G4, anchor_upd (((g.trans g2).trans g3).trans g4) h0 hd, ((q0.trans g2.g).trans g3.g).trans g4.g, fun b o z => ?_, ⟨hF _ _ _ c4.s hd hA, hd, ?_⟩, c4.e⟩
  · rw [upd_ne (ne_of_none z hd)]
    exact c4.s b o z
  · rw [put_ent2]
    exact upd_same
/-- x = {} -/
theorem d_newT {i : Nat} {x : Str} {p' : Pos} (hN : X.N.Nodup) (kk : ∀ d, H0 d = none → G1 d = none → (∀ q : Addr, (∀ G H, Same G H → W.p G H → ∃ o, H q = some o) → q ≠ d) → DSs X rest (At G0 H0 G1 (W.and (DicR d [])) (ρ.set i (some (.v (.ref d))))) E) (hi : X.N[i]? = some x := by rfl) (hx : Loc X.env.scope x := by first | exact Or.inl rfl | exact Or.inr rfl)
    (hs : swapsWith (.Dict [] [] fp) (some (.Name x p')) pos.line X.env = pure false := by rfl) (hf : X.fn x = true ∨ X.env.scope.names.lookup x = some .local := by first | exact Or.inl rfl | exact Or.inr rfl) : DSs X (.Assign [.Name x p'] (.Dict [] [] fp) pos :: rest) (At G0 H0 G1 W ρ) E := by
  refine d_cons (M := fun σ H => ∃ d, (H0 d = none ∧ G1 d = none ∧ ∀ q : Addr, (∀ G H, Same G H → W.p G H → ∃ o, H q = some o) → q ≠ d) ∧ At G0 H0 G1 (W.and (DicR d [])) (ρ.set i (some (.v (.ref d)))) σ H) ?_ (d_ex fun d => d_and fun h => kk d h.1 h.2.1 h.2.2)
  refine dst_of (ps_set hN hi hx pe_dnewT hs hf) fun σ H ⟨G, g, q, c⟩ => fun d hd => ?_
  have gd : G d = none := c.s.free hd
  have g1 : Gw G H G (upd H d (.dT [])) := .heap c.s (same_upd hd)
  have c1 := c.step g1
  exact ⟨d, ⟨g.h.free hd, q.free gd, fun z hz e => by
    obtain ⟨u, hu⟩ := hz G H c.s c.w
    rw [e, hd] at hu
    cases hu⟩, G, g.trans g1, q, c1.s, ⟨c1.w, gd, upd_same⟩, c1.e.set (s := .v (.ref d)) (v := .ref d) rfl i⟩
end
/-! ### hunts -/
abbrev Sd := T3 (Tup Int) Int Str
structure HS where
  d : Addr
  nears : List (List Int)
  count : Int
  nums : List (Sd × Int)
def HuntI (C p : Addr) (s : HS) : Res := InsD C p [("nears", En s.nears), ("count", En s.count), ("numbers", .v (.ref s.d))]
def HuntR (P : Program) (w : World) (C p : Addr) (s : HS) : Res := (HuntI C p s).and (DicN P w s.d s.nums)
theorem hunt_is {P : Program} {w : World} (C : Addr) {m : Str} (h1 : (m == ("nears" : Str)) = false := by decide) (h2 : (m == ("count" : Str)) = false := by decide) (h3 : (m == ("numbers" : Str)) = false := by decide) : IsO (HuntR P w C) C m := fun p s G H h => ins_obj h.1 (by
  rw [List.lookup_cons, h1]
  show List.lookup m [("count", _), ("numbers", _)] = none
  rw [List.lookup_cons, h2]
  show List.lookup m [("numbers", _)] = none
  rw [List.lookup_cons, h3]
  rfl)
theorem frz_Hunt {P : Program} {w : World} {C q p : Addr} {s : HS} (h : q ≠ p) (h2 : s.d ≠ p) : Frz (HuntR P w C q s) p := frz_and (frz_ins h) (frz_dicN h2)
theorem frm_Hunt {P : Program} {w : World} {C q p : Addr} {s : HS} (h : q ≠ p) (h2 : s.d ≠ p) : Frm (HuntR P w C q s) p := frm_and (frm_ins h) (frm_dicN h2)
theorem frc_Hunt {P : Program} {w : World} {C q : Addr} {s : HS} {ds : List Addr} (h : q ∉ ds) (h2 : s.d ∉ ds) : Frc (HuntR P w C q s) ds := frc_and (frc_ins h) (frc_dicN h2)
end DL

/-! DL31: small rules over tuples by their types; is_standing of any data. -/
namespace DL
open PySem PySem.Spec L2
open PyProof.Rows hiding St
open PySem.W (Datum DatumOrd Tup T3 Holds HoldAll EachIs SomeDatum)
instance {α : Type} : Inhabited (Tup α) := ⟨⟨[]⟩⟩
instance {α β γ : Type} [Inhabited α] [Inhabited β] [Inhabited γ] : Inhabited (T3 α β γ) := ⟨⟨default, default, default⟩⟩
section
variable {X : Cx} {W : Res} {ρ : Ro} {pos p2 fp : Pos} {a b : Expr} {α β γ : Type} [DecidableEq α] [Datum α] [DecidableEq β] [Datum β] [DecidableEq γ] [Datum γ]
theorem te_catTp {s t : Tup α} (ha : DE X W a ρ (En s)) (hb : DE X W b ρ (En t)) (hl : s.items.length + t.items.length ≤ 1000000) : DE X W (.BinOp a .Add b pos) ρ (En (Tup.mk (s.items ++ t.items))) := by
  have h := de_catT (pos := pos) ha hb (by rw [List.length_map, List.length_map]; exact hl)
  rw [← List.map_append] at h
  exact h
/-- x[:2] of three -/
theorem te_cut2 {x : T3 α β γ} {hi : Expr} (ha : DE X W a ρ (En x)) (hu : DE X W hi ρ (En (2 : Int))) : DE X W (.Subscript a (.Slice none (some hi) none p2) pos) ρ (En (x.a, x.b)) := by
  have h := de_slT (pos := pos) (p2 := p2) ha do_no (do_so hu)
  exact h
end
theorem te_some {X : Cx} {W : Res} {ρ : Ro} {e : Expr} {α : Type} [DecidableEq α] [Datum α] [SomeDatum α] {x : α} (h : DE X W e ρ (En x)) : DE X W e ρ (En (some x)) := h
/-- pairs as tuples of two -/
theorem te_pt {X : Cx} {W : Res} {ρ : Ro} {e : Expr} {xs : List (Int × Int)} (h : DE X W e ρ (En xs)) : DE X W e ρ (En (xs.map fun q => (Tup.mk [q.1, q.2] : Tup Int))) := by
  have e2 : (En (xs.map fun q => (Tup.mk [q.1, q.2] : Tup Int)) : Sl) = En xs := by
    show Sl.d (.list ((xs.map fun q => (Tup.mk [q.1, q.2] : Tup Int)).map Datum.toD)) = Sl.d (.list (xs.map Datum.toD))
    rw [List.map_map]
    rfl
  rw [e2]
  exact h
theorem addQ_len {q : Int × Int} {ps : List (Int × Int)} : (addQ q ps).length ≤ ps.length + 1 := by
  unfold addQ
  cases memB q ps with
  | true => exact Nat.le_succ _
  | false =>
    show (ps ++ [q]).length ≤ _
    rw [List.length_append]
    exact Nat.le_refl _
theorem frm_PD {d q : Addr} {ps : List (Int × Int)} (h : d ≠ q) : Frm (DicR d ps) q := frm_dic h
theorem frz_PD {d q : Addr} {ps : List (Int × Int)} (h : d ≠ q) : Frz (DicR d ps) q := fun G H o hs hp g ⟨h1, h2⟩ => ⟨by rw [upd_ne h]; exact h1, h2⟩
/-- one of several resources -/
theorem d_exW {X : Cx} {G0 H0 G1 : Hp} {W : Res} {ρ : Ro} {E : Ends} {body : List Stmt} {ι : Type} {φ : ι → Prop} {W' : ι → Res} (w : ∀ G H, Same G H → W.p G H → ∃ i, φ i ∧ (W' i).p G H) (h : ∀ i, φ i → DSs X body (At G0 H0 G1 (W' i) ρ) E) : DSs X body (At G0 H0 G1 W ρ) E :=
  d_imp (d_ex fun i => d_and fun q => h i q) fun σ H ⟨G, g, q, c⟩ => by
    obtain ⟨i, hi, hw⟩ := w G H c.s c.w
    exact ⟨i, hi, G, g, q, c.s, hw, c.e⟩
/-- the dict d of two texts, its lists -/
def LfA (d : Addr) (s1 s2 : Str) (i : Addr × Addr) (ls lh : List Sd) : Res := ((DKR d [(.inr s1, .ref i.1), (.inr s2, .ref i.2)]).and (Own i.1 (ls.map Datum.toD))).and (Own i.2 (lh.map Datum.toD))
def LfF (H0 : Hp) (qs : List Addr) (d : Addr) (i : Addr × Addr) : Prop := (H0 i.1 = none ∧ H0 i.2 = none) ∧ (d ≠ i.1 ∧ d ≠ i.2 ∧ i.1 ≠ i.2) ∧ i.1 ∉ qs ∧ i.2 ∉ qs
def LfR (H0 : Hp) (qs : List Addr) (d : Addr) (s1 s2 : Str) (ls lh : List Sd) : Res := ⟨fun G H => ∃ i, LfF H0 qs d i ∧ (LfA d s1 s2 i ls lh).p G H, fun s g ⟨i, h1, h2⟩ => ⟨i, h1, (LfA d s1 s2 i ls lh).mono s g h2⟩⟩
theorem frm_Lf {H0 : Hp} {qs : List Addr} {d q : Addr} {s1 s2 : Str} {ls lh : List Sd} (h : q ∈ qs) (hd : d ≠ q) : Frm (LfR H0 qs d s1 s2 ls lh) q := fun G H o s g ⟨i, h1, h2⟩ => ⟨i, h1, (frm_and (frm_and (frm_dk hd) (frm_own fun (e : i.1 = q) => h1.2.2.1 (by rw [e]; exact h))) (frm_own fun (e : i.2 = q) => h1.2.2.2 (by rw [e]; exact h))) G H o s g h2⟩
/-- whether a value is of a built-in kind -/
def isK (T : String) (d : PyData) : Bool := (kitB (tyD d) T).getD false
def leD : PyData → PyData → Bool
  | .int i, .int j => decide (i ≤ j)
  | _, _ => false
def isStd (s : HS) : PyData → Bool
  | .tuple [.tuple xs, h, .str t] => decide ((xs.length : Int) = s.count) && memB t [Str.ofString "seek", Str.ofString "hide"] && (((xs ++ [h]).map fun p => amongD p 0 ((s.nears.length : Int) - 1)).all fun b => b) && leD (ixD xs 0) (ixD xs (-1))
  | _ => false
/-- a method asked of any data -/
def OP {S : Type} (OR : Addr → S → Res) (pre : S → Prop) (f : S → PyData → Bool) : List Sl → Res → Sl → Prop := fun ss W r => ∃ p s d, ss = [.v (.ref p), .d d] ∧ W = OR p s ∧ pre s ∧ r = En (f s d)
theorem OP.len {S : Type} {OR : Addr → S → Res} {pre : S → Prop} {f : S → PyData → Bool} : ∀ ss W r, OP OR pre f ss W r → ss.length = 2 := fun ss W r ⟨_, _, _, e, _⟩ => by rw [e]; rfl
theorem omP {S : Type} {OR : Addr → S → Res} {X : Cx} {W : Res} {ρ : Ro} {pos apos : Pos} {o ea : Expr} {k j : Nat} {m : Str} {ps : List Str} {s : S} {p C : Addr} {d : PyData} {pl : Sem Bool} {pre : S → Prop} {f : S → PyData → Bool} (F : MtG X.prog X.w X.K X.mg X.base j C m ps (OP OR pre f)) (cl : Cls X.K C) (iso : IsO OR C m) (hr : Room k X.A) (ho : DE X W o ρ (.v (.ref p))) (hW : ∀ G H, Same G H → W.p G H → (OR p s).p G H) (h1 : DE X W ea ρ (.d d)) (hp : pre s) (hj : j ≤ k := by decide)
    (sa : SAs X ea [] pos := by exact ⟨rfl, rfl⟩)
    (ht : eval (.Call (.Attribute o m apos) [ea] [] pos) X.env = (do
      let ov ← eval o X.env
      standAt apos.atName
      let (f, first) ← holding [ov] (getMethod ov m pl)
      callWith pos f first (backTo pos (starEach [ea] X.env)) (backToKw pos (keywordEach [] X.env))) := by rfl) : DE X W (.Call (.Attribute o m apos) [ea] [] pos) ρ (En (f s d)) :=
  de_meth (pl := pl) F cl hr ho (fun G H q w => iso p s G H (hW G H q w)) (da_cons h1 da_nil sa.he) hW ⟨p, s, d, rfl, rfl, hp, rfl⟩ hj sa.he sa.hpl ht
end DL

/-! DL32: classes whose __init__ has a default. -/
namespace DL
open PySem PySem.Spec L2
open PyProof.Rows hiding St
open PySem.W (Datum DatumOrd Tup T3 Holds HoldAll EachIs SomeDatum)
/-- a class: its __init__ changes the new instance alone; dv: the defaults -/
structure MkH (P : Program) (w : World) (K : PySem.W.Frag) (mg : Str → Option Value) (base : Heap) (k : Nat) (x : Str) (C : Addr) (ps : List Str) (dv : List V) (R : List Sl → Res → List Addr → PostT → Prop) : Prop where
  all : MkM P w K mg base k x C ps R
  few : ∃ f fd, Mk K C f ∧ mg x = some (.ref C) ∧ (∃ us, Vals dv us ∧ Binds K fd ps us) ∧ FnOk P w K mg base L2.CX0 k f fd ps (SpM R)
theorem RepL.append {G : Hp} : ∀ {vs ws : List V} {ss ts : List Sl}, RepL G vs ss → RepL G ws ts → RepL G (vs ++ ws) (ss ++ ts)
  | _, _, _, _, .nil, k => k
  | _, _, _, _, .cons h t, k => .cons h (t.append k)
section
variable {X : Cx} {W W0 A : Res} {ρ : Ro} {pos fp apos : Pos} {e o : Expr} {es : List Expr} {ss sd : List Sl} {dv : List V} {ds : List Addr} {Post : PostT} {k j : Nat} {x m : Str} {ps : List Str} {R : List Sl → Res → List Addr → PostT → Prop} {C p : Addr}
/-- C(e, ..), the defaults fill up -/
theorem dx_makeF {Pst : Addr → PostT} (F : MkH X.prog X.w X.K X.mg X.base j x C ps dv R) (hsd : ∀ G, RepL G dv sd) (hr : Room k X.A) (ha : DA X W (e :: es) ρ ss) (hW : ∀ p G H, Same G H → W.p G H → (InsR C p).p G H → W0.p G H) (hR : ∀ p, R (.v (.ref p) :: (ss ++ sd)) ((InsR C p).and W0) [p] (Pst p)) (hP : ∀ p N W1 r0, Pst p N W1 r0 → r0 = .d .none) (hj : j + 1 ≤ k := by decide) (hg : Gl X x := by rfl) (hdb : (x == ("__debug__" : Str)) = false := by decide)
    (he : starEach (e :: es) X.env = (false, eval e X.env) :: starEach es X.env := by rfl) (hpl : (backTo pos (starEach es X.env)).any (·.1) = false := by rfl) :
    DX X W (.Call (.Name x fp) (e :: es) [] pos) ρ [] (fun N W' r => ∃ p N0 W1 r0, Pst p N0 W1 r0 ∧ N = p :: N0 ∧ W' = W.and W1 ∧ r = .v (.ref p)) := by
  obtain ⟨f, fd, h1, h2, ⟨us, hus, h3⟩, h4⟩ := F.few
  exact pe_imp (pe_make h1 h4 (hr.mono hj) hg h2 h3 hus L2.pass0 ha hdb he hpl) fun σ H Q ⟨G, c, hd, q⟩ => ⟨G, c, fun vs G1 H1 g1 r1 => by
    show ∀ x dx, H1 x = none → H1 dx = none → dx ≠ x → SpM R (V.ref x :: (vs ++ dv)) (upd (upd H1 dx (.own x)) x (.ins C dx [])) (fun v H2 => v = .non ∧ Q (.ref x) H2) _
    intro p dx hp hdx hne
    have c1 := c.step g1
    have s2 : Same H1 (upd (upd H1 dx (.own p)) p (.ins C dx [])) := fun b u z => by
      rw [upd_ne (ne_of_none z hp), upd_ne (ne_of_none z hdx)]
      exact z
    have g2 : Gw G1 H1 G1 (upd (upd H1 dx (.own p)) p (.ins C dx [])) := .heap c1.s s2
    have c2 := c1.step g2
    have gp : G1 p = none := c1.s.free hp
    have ins : (InsR C p).p G1 (upd (upd H1 dx (.own p)) p (.ins C dx [])) := ⟨gp, dx, upd_same⟩
    refine ⟨G1, .v (.ref p) :: (ss ++ sd), (InsR C p).and W0, [p], Pst p, c2.s, ⟨ins, hW p _ _ c2.s c2.w ins⟩, fun d hd => by rw [List.mem_singleton.mp hd]; exact gp, .cons rfl (r1.append (hsd G1)), hR p, fun N W' r v G3 H3 hPn hN g3 hw r3 => ?_⟩
    have hv : Same H1 H3 := fun b u z => g3.h b u (by
      rw [cut_ne fun q => by rw [List.mem_singleton.mp q, hp] at z; cases z]
      exact s2 b u z)
    have g13 : Gw G1 H1 G3 H3 := ⟨g3.g, hv, g3.i, fun b u z n => by
      rcases g3.n b u z n with y | y
      · left
        by_cases hb : b = p
        · rw [hb]
          exact hp
        · rw [cut_ne fun q => hb (List.mem_singleton.mp q)] at y
          exact s2.free y
      · exact .inr y⟩
    refine ⟨?_, ?_⟩
    · have e := hP p N W' r hPn
      subst e
      cases r3
      rfl
    · refine q (p :: N) (W.and W') (.v (.ref p)) (.ref p) G3 H3 ⟨p, N, W', r, hPn, rfl, rfl, rfl⟩ (fun a ha => ?_) (by rw [cut_nil]; exact g1.trans g13) ⟨W.mono c.s (g1.trans g13) c.w, hw⟩ rfl
      rcases List.mem_cons.mp ha with z | z
      · rw [z]
        exact g1.h.free hp
      · exact g1.h.free (s2.free (hN a z))⟩
end
end DL

/-! DL33: dicts keyed by data that are shared, walked, handed on, made by a def. -/
namespace DL
open PySem PySem.Spec L2
open PyProof.Rows hiding St
open PySem.W (Datum DatumOrd Tup T3 Holds HoldAll EachIs SomeDatum)
/-- the keys of the dict at d -/
def Itn (P : Program) (w : World) (d : Addr) (o : Obj) (xs : Ents) : It :=
  ⟨fun i H => H d = some (DicO P w d (some o) xs) ∧ i < xs.length, fun i H x H' => H' = H ∧ ∃ q, xs[i]? = some q ∧ x = .ref q.2.1, fun i H => H d = some (DicO P w d (some o) xs) ∧ xs.length ≤ i⟩
section
variable {X : Cx} {pins : List (Addr × Obj)} {σ : St} {H : Hp} {s : Shared} {d : Addr} {o : Obj} {xs : Ents}
theorem dicL_get (I : Inv X pins σ H s) (ha : H d = some (DicO X.prog X.w d (some o) xs)) : (d == sysModules) = false ∧ xs.length ≤ sizeLine ∧ s.heap.get? d = some o ∧ o.ExactDict ∧ ∃ (es : Array DictEntry) (ep : Nat), o.data = .dict es ep ∧ es.size = xs.length ∧ ∀ (i : Nat) (q : NestedKey × Addr × Value), xs[i]? = some q → ∃ en : DictEntry, es[i]? = some en ∧ en.key = .ref q.2.1 := by
  obtain ⟨⟨⟨z, l, nd⟩, o2, es, ep, h1, hl, h2, h3, h4⟩, _⟩ := (show ObjOk X.prog X.w H s.heap d (DicO X.prog X.w d (some o) xs) from I.hok d _ ha)
  cases hl o rfl
  refine ⟨z, l, h1, h2, es, ep, h3, size_of_entries h4, fun i q hq => ?_⟩
  have e := entry_at h4 i
  rw [hq] at e
  exact ⟨_, e, rfl⟩
end
theorem turn_keysN {P : Program} {w : World} {K : PySem.W.Frag} {tg : Expr} {d : Addr} {o : Obj} {es : Array DictEntry} {ep : Nat} {xs : Ents} (it : Addr) (hod : o.data = .dict es ep) : Turn P w K tg (Itn P w d o xs) [it] it (fun i h => h.IsKeyIter it d i xs.length ep) where
  mem := by simp
  obj := fun i h st b hb => by
    have e : b = it := by simpa using hb
    subst e
    obtain ⟨oi, e, c, dd⟩ := st
    exact ⟨oi, e, fun v z => by rw [dd] at z; cases z⟩
  keep := fun i h h' st k => st.at fun oi e => k it (by simp) oi e
  item := by
    intro X hP hw hK hc i pins s σ H E I hf st hg
    subst hP hw hK
    obtain ⟨hd, hi⟩ := hg
    obtain ⟨f0, f1, f2, f3, f4, f5⟩ := hf it (by simp)
    obtain ⟨hs, hz, hgd, hx, es', ep', hdt, hsz, ent⟩ := dicL_get I hd
    obtain ⟨rfl, rfl⟩ := dict_ep hod hdt
    have hq : xs[i]? = some xs[i] := List.getElem?_eq_getElem hi
    obtain ⟨en, hen, hkey⟩ := ent i _ hq
    refine next_key_item st hgd hdt hsz hen fun h' st' sb => ?_
    have I1 : Inv X pins σ H { s with heap := h' } := I.turned (t' := s.toks) (fun b ob hb e => (sb.2 b hb).trans e) f0 f1 f3 f4 f5
    obtain ⟨oi, e, c, dd⟩ := id st'
    exact ⟨en.key, rfl, go_of (s := { s with heap := h' }) e c dd (by decide) ⟨.ref xs[i].2.1, H, I1, hkey, ⟨rfl, _, hq, rfl⟩, st', fun b hb => (hf b hb).1⟩⟩
  done := by
    intro X hP hw hK hc i pins s σ H E I hf st hg
    subst hP hw hK
    obtain ⟨hd, hi⟩ := hg
    obtain ⟨f0, f1, f2, f3, f4, f5⟩ := hf it (by simp)
    obtain ⟨hs, hz, hgd, hx, es', ep', hdt, hsz, ent⟩ := dicL_get I hd
    obtain ⟨rfl, rfl⟩ := dict_ep hod hdt
    exact next_key_end (I.ok.hd hc) st hgd hdt hsz hi fun h' eb => ⟨rfl, I.turned (t' := s.toks) (fun b ob hb e => eb b ob hb e) f0 f1 f3 f4 f5⟩
  self := fun A i s Q E st h => by
    refine wpAny_pyIter_slot st.typeIs F.slot_dict_keyiterator_iter (wpAny_call_entry F.slot_dict_keyiterator_iter st.typeIs F.entry_dict_keyiterator_iter ?_ (F.args_dict_keyiterator_iter_1 _))
    show wpAny _ _ (ret (.ref it)) _ _ s
    exact wpAny_pure ⟨_, rfl, "dict_keyiterator", _, st.typeIs, F.slot_dict_keyiterator_next.lookup, h⟩
def iKeysN (P : Program) (w : World) (td : TE) : TI := fun σ H R => td σ H fun x H1 => ∃ d o xs, x = .ref d ∧ H1 d = some (DicO P w d (some o) xs) ∧ (xs.length ≤ sizeLine → R (Itn P w d o xs) H1)
section
variable {X : Cx} {tg e : Expr} {td : TE}
theorem pi_keysN (he : PE X e td) : PI X tg e (iKeysN X.prog X.w td) := by
  refine ⟨fun pins s σ H R I h => ?_⟩
  refine thn (he.run pins s σ H _ I h) fun u s1 ⟨x, H1, I1, rx, d, o, xs, ex, hd, q⟩ => ?_
  subst ex
  obtain rfl : u = Value.ref d := rx
  obtain ⟨hs, hz, hgd, hx, es, ep, hdt, hsz, ent⟩ := dicL_get I1 hd
  refine iter_keys hs hgd hx hdt (pi_one (tk := s1.toks) I1 _ (turn_keysN _ hdt) ⟨_, Heap.get?_push_size _ rfl, rfl, ?_⟩ (q hz))
  rw [hsz] <;> rfl
end
section
variable {α β : Type} [DecidableEq α] [Datum α] [Keyed α] [DecidableEq β] [Datum β]
/-- the dict d, shared -/
def DicT (P : Program) (w : World) (d : Addr) (D : List (α × β)) : Res := ⟨fun G H => ∃ o xs, G d = some (DicO P w d (some o) xs) ∧ EntR G xs D, fun s g ⟨o, xs, h1, h2⟩ => ⟨o, xs, g.g d _ h1, h2.mono g.g⟩⟩
theorem dicT_A {P : Program} {w : World} {d : Addr} {D : List (α × β)} {G H : Hp} (s : Same G H) (h : (DicT P w d D).p G H) : (DicA P w d D).p G H := by
  obtain ⟨o, xs, h1, h2⟩ := h
  exact ⟨some o, xs, s d _ h1, h2⟩
theorem frz_dicT {P : Program} {w : World} {d q : Addr} {D : List (α × β)} : Frz (DicT P w d D) q := fun G H o hs hp g ⟨ob, xs, h1, h2⟩ => ⟨ob, xs, by rw [upd_ne (ne_of_none h1 g)]; exact h1, h2.mono (same_upd g)⟩
theorem frm_dicT {P : Program} {w : World} {d q : Addr} {D : List (α × β)} : Frm (DicT P w d D) q := fun G H o hs g h => h
theorem frc_dicT {P : Program} {w : World} {d : Addr} {D : List (α × β)} {ds : List Addr} : Frc (DicT P w d D) ds := fun G H hs g h => h
/-- from now on shared -/
theorem d_shareD {X : Cx} {G0 H0 G1 : Hp} {A : Res} {ρ : Ro} {E : Ends} {body : List Stmt} {d : Addr} {D : List (α × β)} (h0 : H0 d = none) (hM : Frm A d) (hZ : Frz A d) (k : DSs X body (At G0 H0 G1 (A.and (DicT X.prog X.w d D)) ρ) E) : DSs X body (At G0 H0 G1 (A.and (DicN X.prog X.w d D)) ρ) E := by
  refine ⟨fun pins s σ H I ⟨G, g, q, c⟩ => ?_⟩
  obtain ⟨hA, hdG, lk, xs, hdH, hE⟩ := c.w
  obtain ⟨⟨hf, o, es, ep, h1, _, h2, h3, h4⟩, _⟩ := (show ObjOk X.prog X.w H s.heap d (DicO X.prog X.w d lk xs) from I.hok d _ hdH)
  have new : ObjOk X.prog X.w (upd H d (DicO X.prog X.w d (some o) xs)) s.heap d (DicO X.prog X.w d (some o) xs) := ⟨⟨hf, o, es, ep, h1, (fun _ z => by cases z; rfl), h2, h3, h4⟩, ⟨o, h1⟩, fun a b ⟨q, o2, es, ep, e, r⟩ k => ⟨q, o2, es, ep, k o2 e, r⟩⟩
  have I2 : Inv X pins σ (upd H d (DicO X.prog X.w d (some o) xs)) s := I.write (x := d) (e := d) (t' := s.toks) (h' := s.heap) (by rw [hdH]; exact True.intro) (.inl rfl) (fun b u _ z => z) ⟨o, h1⟩ new
  refine k.run pins s σ _ I2 ⟨upd G d (DicO X.prog X.w d (some o) xs), ⟨g.g.trans (same_upd hdG), fun b u z => ?_, fun b u z => ?_, fun b u z n => ?_⟩, q.trans (same_upd hdG), fun b u z => ?_, ⟨?_, o, xs, upd_same, hE.mono (same_upd hdG)⟩, c.e.mono (same_upd hdG)⟩
  · rw [upd_ne (ne_of_none z h0)]
    exact g.h b u z
  · by_cases hb : b = d
    · subst hb
      rw [upd_same] at z ⊢
      exact z
    · rw [upd_ne hb] at z ⊢
      exact c.s b u z
  · by_cases hb : b = d
    · subst hb
      exact .inl h0
    · rw [upd_ne hb] at z
      exact g.n b u z n
  · by_cases hb : b = d
    · subst hb
      rw [upd_same] at z ⊢
      exact z
    · rw [upd_ne hb] at z ⊢
      exact c.s b u z
  · refine hZ G _ _ (fun b u z => ?_) upd_same hdG (hM G H _ c.s hdG hA)
    rw [upd_ne (ne_of_none z hdG)]
    exact c.s b u z
/-- for k in d -/
theorem dig_keysN {X : Cx} {W : Res} {ρ : Ro} {tg e : Expr} {d : Addr} {D : List (α × β)} (he : DE X W e ρ (.v (.ref d))) (hW : ∀ G H, Same G H → W.p G H → (DicT X.prog X.w d D).p G H) : DIg X W tg e ρ ((D.map (·.1)).map fun k => En k) :=
  pi_imp (pi_keysN he) fun σ H R ⟨G, c, k⟩ => ⟨G, c, fun v G1 H1 g1 r1 => by
    have ev : v = .ref d := r1
    subst ev
    have c1 := c.step g1
    obtain ⟨o, xs, h1, h2⟩ := hW G1 H1 c1.s c1.w
    have hl := h2.len
    refine ⟨d, o, xs, rfl, c1.s d _ h1, fun bd => k _ G1 H1 g1 ⟨by rw [List.length_map, List.length_map, ← hl]; exact bd, fun i H hz hi => ⟨hz d _ h1, by rw [List.length_map, List.length_map, ← hl] at hi; exact hi⟩, fun i H hz hi => ⟨hz d _ h1, by rw [List.length_map, List.length_map, ← hl] at hi; exact hi⟩, fun i G2 H2 x H3 s2 hz hg hh hs hy => ?_⟩⟩
    obtain ⟨rfl, q, hq, rfl⟩ := hy
    obtain ⟨e2, he2, p1, p2, _⟩ := paired_get h2 hq
    rw [List.map_map, List.getElem?_map, he2] at hs
    cases hs
    exact ⟨G2, .refl hh, rp_mono hg _ _ p2⟩⟩
end
/-! promises over dicts -/
section
variable {S α β γ ζ : Type} [DecidableEq α] [Datum α] [DecidableEq β] [Datum β] [DecidableEq γ] [Datum γ] [DecidableEq ζ] [Datum ζ] {OR : Addr → S → Res}
def O2c (OR : Addr → S → Res) (pre : S → α → β → Prop) (f : S → α → β → ζ) : List Sl → Res → Sl → Prop := fun ss W r => ∃ p s a b, ss = [En a, En b, .v (.ref p)] ∧ W = OR p s ∧ pre s a b ∧ r = En (f s a b)
theorem O2c.len {pre : S → α → β → Prop} {f : S → α → β → ζ} : ∀ ss W r, O2c OR pre f ss W r → ss.length = 3 := fun ss W r ⟨_, _, _, _, e, _⟩ => by rw [e]; rfl
variable {X : Cx} {W : Res} {ρ : Ro} {pos fp : Pos} {o ea eb ec : Expr} {k j : Nat} {x : Str} {ps : List Str} {a : α} {b : β} {c : γ} {s : S} {p : Addr}
theorem og2c {pre : S → α → β → Prop} {f : S → α → β → ζ} (F : FnG X.prog X.w X.K X.mg X.base j x ps (O2c OR pre f)) (hr : Room k X.A) (ho : DE X W o ρ (.v (.ref p))) (hW : ∀ G H, Same G H → W.p G H → (OR p s).p G H) (h1 : DE X W ea ρ (En a)) (h2 : DE X W eb ρ (En b)) (hp : pre s a b) (hj : j ≤ k := by decide) (hg : Gl X x := by rfl) (hdb : (x == ("__debug__" : Str)) = false := by decide)
    (sa : SAs X ea [eb, o] pos := by exact ⟨rfl, rfl⟩) (sb : SAs X eb [o] pos := by exact ⟨rfl, rfl⟩) (sc : SAs X o [] pos := by exact ⟨rfl, rfl⟩) : DE X W (.Call (.Name x fp) [ea, eb, o] [] pos) ρ (En (f s a b)) :=
  de_call F hr (da_cons h1 (da_cons h2 (da_cons ho da_nil sc.he) sb.he) sa.he) hW ⟨p, s, a, b, rfl, rfl, hp, rfl⟩ hj hg hdb sa.he sa.hpl
end
end DL

/-! DL34: an object made of an object made on the spot, and of data; defs that hand back a new dict. -/
namespace DL
open PySem PySem.Spec L2
open PyProof.Rows hiding St
open PySem.W (Datum DatumOrd Tup T3 Holds HoldAll EachIs SomeDatum)
section
variable {X : Cx} {W : Res} {ρ : Ro} {pos fp : Pos} {e e1 : Expr} {s1 : Sl} {k j : Nat} {x : Str} {ps : List Str} {R : List Sl → Res → List Addr → PostT → Prop} {C : Addr} {PostE : PostT} {Pst : List Addr → Res → Sl → Addr → PostT}
theorem dx_makeD2 (F : MkM X.prog X.w X.K X.mg X.base j x C ps R) (hr : Room k X.A) (he : DX X W e ρ [] PostE) (h1 : DE X W e1 ρ s1) (hR : ∀ N1 W1 r, PostE N1 W1 r → ∀ p, ∃ W0, (∀ G H, Same G H → W1.p G H → (InsR C p).p G H → W0.p G H) ∧ R [.v (.ref p), r, s1] ((InsR C p).and W0) [p] (Pst N1 W1 r p))
    (hP : ∀ N1 W1 r p N W2 r0, Pst N1 W1 r p N W2 r0 → r0 = .d .none) (hj : j + 1 ≤ k := by decide) (hg : Gl X x := by rfl) (hdb : (x == ("__debug__" : Str)) = false := by decide)
    (hst : starEach [e, e1] X.env = (false, eval e X.env) :: starEach [e1] X.env := by rfl) (hst1 : starEach [e1] X.env = (false, eval e1 X.env) :: starEach [] X.env := by rfl) (hpl : (backTo pos (starEach [e1] X.env)).any (·.1) = false := by rfl) :
    DX X W (.Call (.Name x fp) [e, e1] [] pos) ρ [] (fun N W' r => ∃ p N1 W1 r1 N0 W2 r0, PostE N1 W1 r1 ∧ Pst N1 W1 r1 p N0 W2 r0 ∧ N = p :: (N1 ++ N0) ∧ W' = W1.and W2 ∧ r = .v (.ref p)) := by
  obtain ⟨f, fd, f1, f2, f3, f4⟩ := F
  refine pe_imp (pe_make f1 f4 (hr.mono hj) hg f2 f3 .nil L2.pass0 (pa_cons he (pa_cons h1 pa_nil hst1) hst) hdb hst hpl) fun σ H Q ⟨G, c, hd, q⟩ => ⟨G, c, fun d hd => (by cases hd), fun N1 W1 r1 v G1 Ha hP1 hN1 g0 hw0 rv0 => ?_⟩
  rw [cut_nil] at g0
  refine ⟨G1, c.step g0, fun v2 G2 H1 g20 r2 => ?_⟩
  have g1 := g0.trans g20
  have hw1 := W1.mono g0.i g20 hw0
  have rv := rv0.mono g20.g
  show ∀ p dx, H1 p = none → H1 dx = none → dx ≠ p → SpM R (V.ref p :: ([v, v2] ++ [])) (upd (upd H1 dx (.own p)) p (.ins C dx [])) (fun v H2 => v = .non ∧ Q (.ref p) H2) _
  intro p dx hp hdx hne
  rw [List.append_nil]
  have s2 : Same H1 (upd (upd H1 dx (.own p)) p (.ins C dx [])) := fun b u z => by
    rw [upd_ne (ne_of_none z hp), upd_ne (ne_of_none z hdx)]
    exact z
  have g2 : Gw G2 H1 G2 (upd (upd H1 dx (.own p)) p (.ins C dx [])) := .heap g1.i s2
  have gp : G2 p = none := g1.i.free hp
  have ins : (InsR C p).p G2 (upd (upd H1 dx (.own p)) p (.ins C dx [])) := ⟨gp, dx, upd_same⟩
  obtain ⟨W0, hW0, hR0⟩ := hR N1 W1 r1 hP1 p
  refine ⟨G2, [.v (.ref p), r1, s1], (InsR C p).and W0, [p], Pst N1 W1 r1 p, g2.i, ⟨ins, hW0 _ _ g2.i (W1.mono g1.i g2 hw1) ins⟩, fun d hd => by rw [List.mem_singleton.mp hd]; exact gp, .cons rfl (.cons rv (.cons r2 .nil)), hR0, fun N W' r u G3 H3 hPn hN g3 hw r3 => ?_⟩
  have hv : Same H1 H3 := fun b u z => g3.h b u (by
    rw [cut_ne fun q => by rw [List.mem_singleton.mp q, hp] at z; cases z]
    exact s2 b u z)
  have g13 : Gw G2 H1 G3 H3 := ⟨g3.g, hv, g3.i, fun b u z n => by
    rcases g3.n b u z n with y | y
    · left
      by_cases hb : b = p
      · rw [hb]
        exact hp
      · rw [cut_ne fun q => hb (List.mem_singleton.mp q)] at y
        exact s2.free y
    · exact .inr y⟩
  refine ⟨?_, ?_⟩
  · have e := hP N1 W1 r1 p N W' r hPn
    subst e
    cases r3
    rfl
  · refine q (p :: (N1 ++ N)) (W1.and W') (.v (.ref p)) (.ref p) G3 H3 ⟨p, N1, W1, r1, N, W', r, hP1, hPn, rfl, rfl, rfl⟩ (fun a ha => ?_) (by rw [cut_nil]; exact g1.trans g13) ⟨W1.mono g1.i g13 hw1, hw⟩ rfl
    rcases List.mem_cons.mp ha with z | z
    · rw [z]
      exact g1.h.free hp
    · rcases List.mem_append.mp z with z | z
      · exact hN1 a z
      · exact g1.h.free (s2.free (hN a z))
end
/-- x if c else y, both make alike -/
theorem dx_ifB {X : Cx} {W : Res} {ρ : Ro} {pos : Pos} {c0 a b : Expr} {k : Bool} {Post : PostT} (hc : DT X W c0 ρ k) (ha : k = true → DX X W a ρ [] Post) (hb : k = false → DX X W b ρ [] Post) : DX X W (.IfExp c0 a b pos) ρ [] Post := by
  cases k with
  | true => exact dx_ifT (fun _ _ _ _ d hd => by cases hd) hc (ha rfl)
  | false => exact dx_ifF (fun _ _ _ _ d hd => by cases hd) hc (hb rfl)
/-- a list of numbers that none lacks -/
theorem ts_oD {X : Cx} {W : Res} {ρ : Ro} {e : Expr} {α : Type} [DecidableEq α] [Datum α] [SomeDatum α] [Inhabited α] {xs : List (Option α)} (h : TS X W e ρ xs) (n : none ∉ xs) : TS X W e ρ (xs.map fun o => oD o) := by
  have e2 : (xs.map fun o => oD o).map Datum.toD = xs.map Datum.toD := by
    rw [List.map_map]
    refine List.map_congr_left fun o ho => ?_
    cases o with
    | none => exact absurd ho n
    | some a => rfl
  show DS X W e ρ _
  rw [e2]
  exact h
/-- a def of two data that hands back a new dict -/
def M2 {α β : Type} [DecidableEq α] [Datum α] [DecidableEq β] [Datum β] (pre : α → β → Prop) (f : α → β → Addr → Res) : List Sl → Res → List Addr → PostT → Prop := fun ss W ds Post => ∃ a b, ss = [En a, En b] ∧ W = R0 ∧ pre a b ∧ ds = [] ∧ Post = fun N W' r => ∃ d, N = [d] ∧ W' = f a b d ∧ r = .v (.ref d)
section
variable {α β : Type} [DecidableEq α] [Datum α] [Keyed α] [DecidableEq β] [Datum β]
theorem frm_ND {P : Program} {w : World} {d q : Addr} {D : List (α × β)} (h : d ≠ q) : Frm (DicN P w d D) q := frm_dicN h
theorem frz_ND {P : Program} {w : World} {d q : Addr} {D : List (α × β)} (h : d ≠ q) : Frz (DicN P w d D) q := frz_dicN h
theorem frc_ND {P : Program} {w : World} {d : Addr} {D : List (α × β)} {ds : List Addr} (h : d ∉ ds) : Frc (DicN P w d D) ds := frc_dicN h
theorem frm_NT {P : Program} {w : World} {d q : Addr} {D : List (α × β)} : Frm (DicT P w d D) q := frm_dicT
theorem frz_NT {P : Program} {w : World} {d q : Addr} {D : List (α × β)} : Frz (DicT P w d D) q := frz_dicT
theorem frc_NT {P : Program} {w : World} {d : Addr} {D : List (α × β)} {ds : List Addr} : Frc (DicT P w d D) ds := frc_dicT
theorem frm_DA {P : Program} {w : World} {d q : Addr} {D : List (α × β)} (h : d ≠ q) : Frm (DicA P w d D) q := fun G H o s g ⟨lk, xs, h2, h3⟩ => ⟨lk, xs, by rw [upd_ne h]; exact h2, h3⟩
theorem frz_DA {P : Program} {w : World} {d q : Addr} {D : List (α × β)} (h : d ≠ q) : Frz (DicA P w d D) q := fun G H o hs hp g ⟨lk, xs, h2, h3⟩ => ⟨lk, xs, h2, h3.mono (same_upd g)⟩
theorem frz_DicA {P : Program} {w : World} {d q : Addr} {D : List (α × β)} : Frz (DicA P w d D) q := fun G H o hs hp g ⟨lk, xs, h2, h3⟩ => ⟨lk, xs, h2, h3.mono (same_upd g)⟩
/-- k not in d -/
theorem de_nni {X : Cx} {W : Res} {ρ : Ro} {pos : Pos} {o a : Expr} {d : Addr} {D : List (α × β)} {q : α} {k : Nat} (hr : Room k X.A) (ha : DE X W a ρ (En q)) (ho : DE X W o ρ (.v (.ref d))) (hW : ∀ G H, Same G H → W.p G H → (DicA X.prog X.w d D).p G H) (ht : TupK α := by exact fun _ => ⟨_, rfl⟩) (hd : Datum.depth α ≤ 8 := by decide) (hm : behindInMarks .NotIn o = false := by rfl) : DE X W (.Compare a [.NotIn] [o] pos) ρ (En (!(lookN D q).isSome)) :=
  pe_imp (pe_cmpR (or_nni (u16 hr)) ha ho hm) fun σ H Q ⟨G, c, kk⟩ => ⟨G, c, fun y G1 H1 g1 r1 => ⟨G1, c.step g1, fun x G2 H2 g2 r2 => by
    have ex : x = .ref d := r2
    subst ex
    have c2 := (c.step g1).step g2
    obtain ⟨bq, xs2, e, h3, hk⟩ := key_at ht hd c2.s (r1.mono g2.g) (hW G2 H2 c2.s c2.w)
    subst e
    refine ⟨d, bq, Datum.toD q, xs2, hk, ?_⟩
    rcases h3.at (k := q) with ⟨e1, e2⟩ | ⟨p, y, v, e1, e2, e3, e4⟩
    · rw [e1]
      rw [e2] at kk
      exact kk _ G2 H2 (g1.trans g2) (.bl _)
    · rw [e1]
      rw [e2] at kk
      exact kk _ G2 H2 (g1.trans g2) (.bl _)⟩⟩
theorem dt_nin {X : Cx} {W : Res} {ρ : Ro} {pos : Pos} {o a : Expr} {d : Addr} {D : List (α × β)} {q : α} {k : Nat} (hr : Room k X.A) (ha : DE X W a ρ (En q)) (ho : DE X W o ρ (.v (.ref d))) (hW : ∀ G H, Same G H → W.p G H → (DicA X.prog X.w d D).p G H) (ht : TupK α := by exact fun _ => ⟨_, rfl⟩) (hd : Datum.depth α ≤ 8 := by decide) (hm : behindInMarks .In o = false := by rfl) : DT X W (.Compare a [.In] [o] pos) ρ (lookN D q).isSome :=
  pt_imp (pt_cmpR (or_nin (u16 hr)) ha ho hm) fun σ H Q ⟨G, c, kk⟩ => ⟨G, c, fun y G1 H1 g1 r1 => ⟨G1, c.step g1, fun x G2 H2 g2 r2 => by
    have ex : x = .ref d := r2
    subst ex
    have c2 := (c.step g1).step g2
    obtain ⟨bq, xs2, e, h3, hk⟩ := key_at ht hd c2.s (r1.mono g2.g) (hW G2 H2 c2.s c2.w)
    subst e
    refine ⟨d, bq, Datum.toD q, xs2, hk, _, rfl, ?_⟩
    rcases h3.at (k := q) with ⟨e1, e2⟩ | ⟨p, y, v, e1, e2, e3, e4⟩
    · rw [e1]
      rw [e2] at kk
      exact kk G2 H2 (g1.trans g2)
    · rw [e1]
      rw [e2] at kk
      exact kk G2 H2 (g1.trans g2)⟩⟩
theorem dt_nni {X : Cx} {W : Res} {ρ : Ro} {pos : Pos} {o a : Expr} {d : Addr} {D : List (α × β)} {q : α} {k : Nat} (hr : Room k X.A) (ha : DE X W a ρ (En q)) (ho : DE X W o ρ (.v (.ref d))) (hW : ∀ G H, Same G H → W.p G H → (DicA X.prog X.w d D).p G H) (ht : TupK α := by exact fun _ => ⟨_, rfl⟩) (hd : Datum.depth α ≤ 8 := by decide) (hm : behindInMarks .NotIn o = false := by rfl) : DT X W (.Compare a [.NotIn] [o] pos) ρ (!(lookN D q).isSome) :=
  pt_imp (pt_cmpR (or_nni (u16 hr)) ha ho hm) fun σ H Q ⟨G, c, kk⟩ => ⟨G, c, fun y G1 H1 g1 r1 => ⟨G1, c.step g1, fun x G2 H2 g2 r2 => by
    have ex : x = .ref d := r2
    subst ex
    have c2 := (c.step g1).step g2
    obtain ⟨bq, xs2, e, h3, hk⟩ := key_at ht hd c2.s (r1.mono g2.g) (hW G2 H2 c2.s c2.w)
    subst e
    refine ⟨d, bq, Datum.toD q, xs2, hk, _, rfl, ?_⟩
    rcases h3.at (k := q) with ⟨e1, e2⟩ | ⟨p, y, v, e1, e2, e3, e4⟩
    · rw [e1]
      rw [e2] at kk
      exact kk G2 H2 (g1.trans g2)
    · rw [e1]
      rw [e2] at kk
      exact kk G2 H2 (g1.trans g2)⟩⟩
end
end DL

/-! DL35: the order of data; sorted(set(list of tuples of whole numbers)), few of them unlike. -/
namespace DL
open PySem PySem.Spec L2
open PyProof.Rows hiding St
open PySem.W (Datum DatumOrd Tup T3)
section
variable {α : Type} [DecidableEq α] [DatumOrd α]
theorem lt_irr (a : α) : DatumOrd.lt a a = false := by
  rw [← DatumOrd.lt_eq]
  exact PySem.W.dataLt_self _
theorem lt_neg {a c : α} (b : α) (h : DatumOrd.lt a c = true) : DatumOrd.lt a b = true ∨ DatumOrd.lt b c = true := by
  rw [← DatumOrd.lt_eq] at *
  rw [← DatumOrd.lt_eq]
  exact lex_negTrans _ _ _ h
theorem lt_tr {a b c : α} (h1 : DatumOrd.lt a b = true) (h2 : DatumOrd.lt b c = true) : DatumOrd.lt a c = true := by
  rw [← DatumOrd.lt_eq] at *
  exact lex_trans _ _ _ h1 h2
theorem lt_tot {a b : α} (h1 : DatumOrd.lt a b = false) (h2 : DatumOrd.lt b a = false) : a = b := by
  rw [← DatumOrd.lt_eq] at h1 h2
  have e : PySem.W.keyToks (Datum.toD a) = PySem.W.keyToks (Datum.toD b) := lex_total _ _ h1 h2
  cases q : decide (a = b) with
  | true => exact of_decide_eq_true q
  | false =>
    rw [← Datum.eqv] at q
    have t := (PySem.W.toks_eqv _ _ (DatumOrd.alike a b)).2 q [] [.inl 0]
    rw [e, PySem.W.lex_pre] at t
    exact absurd t (by rw [lex_irrefl]; exact fun z => by cases z)
theorem lt_as {a b : α} (h : DatumOrd.lt a b = true) : DatumOrd.lt b a = false := by
  cases q : DatumOrd.lt b a with
  | false => rfl
  | true => exact absurd (lt_tr h q) (by rw [lt_irr]; exact fun z => by cases z)
theorem le_tr {a b c : α} (h1 : DatumOrd.lt b a = false) (h2 : DatumOrd.lt c b = false) : DatumOrd.lt c a = false := by
  cases q : DatumOrd.lt c a with
  | false => rfl
  | true =>
    rcases lt_neg b q with z | z
    · rw [h2] at z
      cases z
    · rw [h1] at z
      cases z
theorem minOf_lt : ∀ (xs : List α) (x : α), (PySem.W.minOf x xs = x ∨ PySem.W.minOf x xs ∈ xs) ∧ DatumOrd.lt x (PySem.W.minOf x xs) = false ∧ ∀ a ∈ xs, DatumOrd.lt a (PySem.W.minOf x xs) = false
  | [], x => ⟨.inl rfl, lt_irr x, fun _ z => by cases z⟩
  | y :: ys, x => by
    have e : PySem.W.minOf x (y :: ys) = PySem.W.minOf (if DatumOrd.lt y x = true then y else x) ys := rfl
    rw [e]
    cases q : DatumOrd.lt y x with
    | true =>
      rw [if_pos rfl]
      obtain ⟨h1, h2, h3⟩ := minOf_lt ys y
      refine ⟨.inr ?_, le_tr h2 (lt_as q), fun a ha => ?_⟩
      · rcases h1 with z | z
        · rw [z]
          exact List.mem_cons_self
        · exact List.mem_cons_of_mem _ z
      · rcases List.mem_cons.mp ha with z | z
        · rw [z]
          exact h2
        · exact h3 a z
    | false =>
      rw [if_neg (fun z => by cases z)]
      obtain ⟨h1, h2, h3⟩ := minOf_lt ys x
      refine ⟨h1.imp id (List.mem_cons_of_mem _), h2, fun a ha => ?_⟩
      rcases List.mem_cons.mp ha with z | z
      · rw [z]
        exact le_tr h2 q
      · exact h3 a z
theorem maxOf_lt : ∀ (xs : List α) (x : α), (PySem.W.maxOf x xs = x ∨ PySem.W.maxOf x xs ∈ xs) ∧ DatumOrd.lt (PySem.W.maxOf x xs) x = false ∧ ∀ a ∈ xs, DatumOrd.lt (PySem.W.maxOf x xs) a = false
  | [], x => ⟨.inl rfl, lt_irr x, fun _ z => by cases z⟩
  | y :: ys, x => by
    have e : PySem.W.maxOf x (y :: ys) = PySem.W.maxOf (if DatumOrd.lt x y = true then y else x) ys := rfl
    rw [e]
    cases q : DatumOrd.lt x y with
    | true =>
      rw [if_pos rfl]
      obtain ⟨h1, h2, h3⟩ := maxOf_lt ys y
      refine ⟨.inr ?_, le_tr (lt_as q) h2, fun a ha => ?_⟩
      · rcases h1 with z | z
        · rw [z]
          exact List.mem_cons_self
        · exact List.mem_cons_of_mem _ z
      · rcases List.mem_cons.mp ha with z | z
        · rw [z]
          exact h2
        · exact h3 a z
    | false =>
      rw [if_neg (fun z => by cases z)]
      obtain ⟨h1, h2, h3⟩ := maxOf_lt ys x
      refine ⟨h1.imp id (List.mem_cons_of_mem _), h2, fun a ha => ?_⟩
      rcases List.mem_cons.mp ha with z | z
      · rw [z]
        exact le_tr q h2
      · exact h3 a z
theorem minL_lt [Inhabited α] {l : List α} (h : l ≠ []) : minL l ∈ l ∧ ∀ a ∈ l, DatumOrd.lt a (minL l) = false := by
  cases l with
  | nil => exact absurd rfl h
  | cons x xs =>
    obtain ⟨h1, h2, h3⟩ := minOf_lt xs x
    refine ⟨?_, fun a ha => ?_⟩
    · rcases h1 with z | z
      · show PySem.W.minOf x xs ∈ _
        rw [z]
        exact List.mem_cons_self
      · exact List.mem_cons_of_mem _ z
    · rcases List.mem_cons.mp ha with z | z
      · rw [z]
        exact h2
      · exact h3 a z
theorem maxL_lt [Inhabited α] {l : List α} (h : l ≠ []) : maxL l ∈ l ∧ ∀ a ∈ l, DatumOrd.lt (maxL l) a = false := by
  cases l with
  | nil => exact absurd rfl h
  | cons x xs =>
    obtain ⟨h1, h2, h3⟩ := maxOf_lt xs x
    refine ⟨?_, fun a ha => ?_⟩
    · rcases h1 with z | z
      · show PySem.W.maxOf x xs ∈ _
        rw [z]
        exact List.mem_cons_self
      · exact List.mem_cons_of_mem _ z
    · rcases List.mem_cons.mp ha with z | z
      · rw [z]
        exact h2
      · exact h3 a z
theorem srt_str {l m : List α} (hl : l.Nodup) (hm : m.Pairwise fun a b => DatumOrd.lt a b = true) (h : ∀ a, a ∈ l ↔ a ∈ m) : srt l = m := by
  have nd : m.Nodup := List.nodup_iff_pairwise_ne.mpr (hm.imp fun {a b} q e => by
    rw [e, lt_irr] at q
    cases q)
  have pm : (srt l).Perm l := List.mergeSort_perm _ _
  refine List.Perm.eq_of_pairwise (le := fun a b : α => (!DatumOrd.lt b a) = true) (fun a b _ _ h1 h2 => ?_) ?_ ?_ (pm.trans ((List.perm_ext_iff_of_nodup hl nd).mpr h))
  · exact lt_tot (by simpa using h2) (by simpa using h1)
  · unfold srt
    refine List.pairwise_mergeSort (fun a b c h1 h2 => ?_) (fun a b => ?_) l
    · simp only [Bool.not_eq_true'] at *
      exact le_tr h1 h2
    · cases q : DatumOrd.lt b a with
      | false => rfl
      | true =>
        rw [lt_as q]
        rfl
  · exact hm.imp fun {a b} q => by
      rw [lt_as q]
      rfl
/-- a list, each once -/
def ddL : List α → List α
  | [] => []
  | x :: l => if x ∈ ddL l then ddL l else x :: ddL l
theorem ddL_mem {x : α} : ∀ {l : List α}, x ∈ ddL l ↔ x ∈ l
  | [] => Iff.rfl
  | y :: l => by
    unfold ddL
    by_cases h : y ∈ ddL l
    · rw [if_pos h, ddL_mem, List.mem_cons]
      exact ⟨.inr, fun z => z.elim (fun e => by rw [e]; exact ddL_mem.mp h) id⟩
    · rw [if_neg h, List.mem_cons, List.mem_cons, ddL_mem]
theorem ddL_nodup : ∀ {l : List α}, (ddL l).Nodup
  | [] => List.nodup_nil
  | y :: l => by
    unfold ddL
    by_cases h : y ∈ ddL l
    · rw [if_pos h]
      exact ddL_nodup
    · rw [if_neg h]
      exact List.nodup_cons.mpr ⟨h, ddL_nodup⟩
def ssetL (xs : List α) : List α := srt (ddL xs)
end
theorem nodup_le {α : Type} [DecidableEq α] : ∀ (l D : List α), l.Nodup → (∀ x ∈ l, x ∈ D) → l.length ≤ D.length
  | [], D, _, _ => Nat.zero_le _
  | x :: l, D, nd, h => by
    have nd' := List.nodup_cons.mp nd
    have hx := h x List.mem_cons_self
    have ih := nodup_le l (D.erase x) nd'.2 fun y hy => (List.mem_erase_of_ne (fun e => nd'.1 (by rw [← e]; exact hy))).mpr (h y (List.mem_cons_of_mem _ hy))
    rw [List.length_erase_of_mem hx] at ih
    have := List.length_pos_of_mem hx
    rw [List.length_cons]
    omega
section
variable {P : Program} {w : World} {A : Around} {E : Value → Shared → Prop} {s : Shared}
abbrev TabT (P : Program) (w : World) (h : Heap) (S : Addr) (ks : List (Addr × List Int)) (i : Nat) : Prop := ∃ L es ep t, SetTR P w h S L es ep t ∧ Got ks i L
/-- the loop of set.update over tuples -/
theorem upd_keys {it S : Addr} {fp wr : List Addr} {GG : Array GenState → Array GenState → Prop} {n : Nat} {PV : Nat → Value → Prop} {SS : Nat → Shared → Prop} {Rr : Result → Shared → Prop} {U : List (List Int)}
    (Wk : WalksS P w A.in1 it fp wr GG n PV SS) (nS : S ∉ fp) (ks : List (Addr × List Int)) (hn : n = ks.length) (hU : U.length < 63) (hin : ∀ p ∈ ks, p.2 ∈ U)
    (val : ∀ i v, PV i v → ∃ p, ks[i]? = some p ∧ v = .ref p.1) (hb : Heap) (hT : ∀ p ∈ ks, IsT P w hb p.2 p.1) (fS : hb.get? S = none) (fW : ∀ b ∈ wr, hb.get? b = none) (room : A.in1.units < cLine) :
    ∀ (k i : Nat) (s : Shared), n - i = k → i ≤ n → SS i s → (∀ b o, hb.get? b = some o → s.heap.get? b = some o) → TabT P w s.heap S ks i →
      (∀ s' : Shared, Moved (S :: wr) GG s s' → TabT P w s'.heap S ks n → (∀ b o, hb.get? b = some o → s'.heap.get? b = some o) → Rr (.ok (.ret .none)) s') →
      codeAny (model P w) A (.builtin "set.update.loop" ⟨[.ref S, .ref it], []⟩) Rr s := by
  have nw : S ∉ wr := fun h => nS (Wk.sub _ h)
  have sb : ∀ b ∈ wr, b ∈ S :: wr := fun b hb => List.mem_cons_of_mem _ hb
  have hold : ∀ {s s' : Shared}, Moved wr GG s s' → (∀ b o, hb.get? b = some o → s.heap.get? b = some o) → ∀ b o, hb.get? b = some o → s'.heap.get? b = some o := fun hm kp b o e =>
    hm.heap b o (fun z => by rw [fW b z] at e; cases e) (kp b o e)
  intro k
  induction k with
  | zero =>
    intro i s hk hi hst kp ⟨L, es, ep, t, R, g⟩ kr
    have hin2 : i = n := by omega
    subst hin2
    refine codeAny_builtin F.entry_set_update_loop ?_
    rw [Around.under_plainId F.plain_set_update_loop _]
    show wpAny _ A.in1 (pyNext (.ref it) >>= _) _ _ s
    refine wpAny_bind (Wk.done s _ _ hst fun s' hm => ?_)
    have kp' := hold hm kp
    show wpAny _ A.in1 (ret Value.none) _ _ s'
    exact wpAny_pure (kr s' (hm.mono sb) ⟨L, es, ep, t, R.keep (fun o e => hm.heap S o nw e) fun p hp => isT_keep (hT p (List.mem_of_mem_take (g.sub p hp))) kp', g⟩ kp')
  | succ k ih =>
    intro i s hk hi hst kp ⟨L, es, ep, t, R, g⟩ kr
    have hlt : i < n := by omega
    refine codeAny_builtin F.entry_set_update_loop ?_
    rw [Around.under_plainId F.plain_set_update_loop _]
    show wpAny _ A.in1 (pyNext (.ref it) >>= _) _ _ s
    refine wpAny_bind (Wk.item i s _ _ hlt hst fun v s' hP hst' hm => ?_)
    obtain ⟨p, hp, rfl⟩ := val i v hP
    have kp' := hold hm kp
    have R' : SetTR P w s'.heap S L es ep t := R.keep (fun o e => hm.heap S o nw e) fun q hq => isT_keep (hT q (List.mem_of_mem_take (g.sub q hq))) kp'
    have hx : IsT P w s'.heap p.2 p.1 := isT_keep (hT p (List.mem_of_getElem? hp)) kp'
    have few : L.length + 1 < 64 := by
      have q := nodup_le (L.map (·.2)) U R.nd fun x hx => by
        obtain ⟨q, hq, rfl⟩ := List.mem_map.mp hx
        exact hin q (List.mem_of_mem_take (g.sub q hq))
      rw [List.length_map] at q
      omega
    show wpAny _ A.in1 (holding [Value.ref p.1] (setAdd S (.ref p.1)) >>= _) _ _ s'
    refine wpAny_bind (wpAny_holding ?_)
    unfold setAdd
    refine wpAny_holding (wpAny_bind (wpAny_pyHash_tuple room hx ?_))
    refine add_at (s := { s' with toks := s'.toks + (p.2.length + 1) }) R' hx room few fun b h' L' es' ep' t' hsb R2 c1 c2 => ?_
    have kp2 : ∀ b o, hb.get? b = some o → h'.get? b = some o := fun b o e => (hsb.2 b (fun z => by rw [z, fS] at e; cases e)).trans (kp' b o e)
    have mv : Moved (S :: wr) GG s { s' with heap := h', toks := s'.toks + (p.2.length + 1) } := (hm.mono sb).then_heap (Nat.le_add_right _ _) fun b o hb e => by
      rw [hsb.2 b (fun h : b = S => hb (by rw [h]; exact List.mem_cons_self))]
      exact e
    refine wpAny_pure ⟨plainId_quiet F.plain_set_update_loop _, ih (i + 1) _ (by omega) hlt (Wk.frame _ s' _ _ hst' (Nat.le_add_right _ _) fun b hb o e => ?_) kp2 ⟨L', es', ep', t', R2, ?_⟩ fun s2 m2 => kr s2 (Moved.trans Wk.gtrans mv m2)⟩
    · rw [hsb.2 b (fun h : b = S => nS (by rw [← h]; exact hb))]
      exact e
    · rcases Classical.em (p.2 ∈ L.map (·.2)) with c | c
      · rw [c1 c]
        exact g.same hp c
      · exact g.more hp (c2 c)
abbrev doneT (P : Program) (w : World) (s : Shared) (ks : List (Addr × List Int)) (s2 : Shared) : Prop := ∃ (hh : Heap) (t : Nat), s2 = { s with heap := hh, toks := t } ∧ TabT P w hh s.heap.objs.size ks ks.length ∧ ∀ b u, s.heap.get? b = some u → hh.get? b = some u
theorem set_init_keys {l : Addr} {its : Array Value} {ks : List (Addr × List Int)} {U : List (List Int)} (calm : A.handled = none) (hl : s.heap.IsList l its) (hi : its.toList = ks.map fun p => Value.ref p.1) (hT : ∀ p ∈ ks, IsT P w s.heap p.2 p.1) (hU : U.length < 63) (hin : ∀ p ∈ ks, p.2 ∈ U) (room : A.units + 3 < cLine) :
    wpAny (model P w) A.in1.in1 (Builtin.«set.__init__» { pos := [Value.ref s.heap.objs.size] ++ [Value.ref l] }) (fun fin s' => match fin with
      | .done f => wants (fun r s2 => r = .none ∧ doneT P w s ks s2) E (.ok f) s'
      | .again c' => c'.quiet = true ∧ codeAny (model P w) A.in1 c' (wants (fun r s2 => r = .none ∧ doneT P w s ks s2) E) s') (fun e s' => wants (fun r s2 => r = .none ∧ doneT P w s ks s2) E (.error e) s') (pSet w s) := by
  have sz : its.size = ks.length := by
    have q := congrArg List.length hi
    rw [Array.length_toList, List.length_map] at q
    exact q
  have new : (s.heap.push (nSet w)).get? s.heap.objs.size = some (nSet w) := Heap.get?_push_size _ rfl
  obtain ⟨⟨cl, di, da, sl⟩, at1, c1, k1, d1⟩ := hl
  simp only at c1 d1
  subst c1 d1
  have at2 : (s.heap.push (nSet w)).get? l = some ⟨.type "list", di, .seq its k1, sl⟩ := Heap.get?_push_of_some _ at1
  have e1 := F.sub_list_set; have e2 := F.sub_list_frozenset
  have e3 : (Value.type "list" == Value.type "dict") = false := by decide
  have l2 : (s.heap.push (nSet w)).IsList l its := ⟨_, at2, rfl, k1, rfl⟩
  have lt := Heap.lt_size at1
  have m3 : A.in1.in1.in1.handled = none := by simp [calm]
  unfold Builtin.«set.__init__» noKeywords Builtin.Frozenset.updateFrom
  generalize q : pyIter = it
  wp_walk
  subst q
  refine wpAny_pyIter_list l2 (wpAny_bind (wpAny_runValue ?_))
  have ne1 : l ≠ (s.heap.push (nSet w)).objs.size := by rw [Heap.size_push]; exact Nat.ne_of_lt (Nat.lt_succ_of_lt lt)
  have ne2 : s.heap.objs.size ∉ [(s.heap.push (nSet w)).objs.size, l] := by
    rw [Heap.size_push]; intro z
    rcases List.mem_cons.mp z with z | z
    · exact absurd z (Nat.ne_of_lt (Nat.lt_succ_self _))
    · exact absurd (List.mem_singleton.mp z) (Nat.ne_of_gt lt)
  have val : ∀ (i : Nat) (v : Value), its[i]? = some v → ∃ p, ks[i]? = some p ∧ v = .ref p.1 := fun i v hv => by
    have q : its.toList[i]? = some v := (Array.getElem?_toList ..).trans hv
    rw [hi, List.getElem?_map] at q
    cases hq : ks[i]? with
    | none =>
      rw [hq] at q
      cases q
    | some p =>
      rw [hq] at q
      exact ⟨p, rfl, (Option.some.inj q).symm⟩
  have past : ∀ b, s.heap.objs.size ≤ b → s.heap.get? b = none := fun b hb => by
    cases q : s.heap.get? b with
    | none => rfl
    | some o => exact absurd (Nat.lt_of_lt_of_le (Heap.lt_size q) hb) (Nat.lt_irrefl _)
  refine upd_keys (P := P) (w := w) (Walks.list m3 _ l ne1 its).toS ne2 ks sz hU hin val s.heap hT (past _ (Nat.le_refl _)) (fun b hb => past b (by rw [List.mem_singleton.mp hb, Heap.size_push]; exact Nat.le_succ _)) (by exact room) (its.size - 0) 0 _ (by omega) (Nat.zero_le _) ⟨⟨_, Heap.get?_push_size _ rfl, rfl, rfl⟩, l2.push _⟩ (fun b o e => Heap.get?_push_of_some _ (Heap.get?_push_of_some _ e)) ⟨[], #[], 0, _, setTR_fresh (Heap.get?_push_of_some _ new), Got.zero ks⟩ ?_
  rintro ⟨hp, g2, dr, t2, os2⟩ mv R kp
  cases mv.gens; cases mv.drawn; cases mv.os
  show wpAny _ _ _ _ _ _
  rw [sz] at R
  exact wpAny_pure (show wpAny _ _ (ret Value.none) _ _ _ from wpAny_pure ⟨rfl, hp, t2, rfl, R, kp⟩)
theorem call_set_keys {l : Addr} {its : Array Value} {ks : List (Addr × List Int)} {U : List (List Int)} {Q : Value → Shared → Prop} (calm : A.handled = none) (hl : s.heap.IsList l its) (hi : its.toList = ks.map fun p => Value.ref p.1) (hT : ∀ p ∈ ks, IsT P w s.heap p.2 p.1) (hU : U.length < 63) (hin : ∀ p ∈ ks, p.2 ∈ U) (room : A.units + 3 < cLine)
    (k : ∀ s2, doneT P w s ks s2 → Q (.ref s.heap.objs.size) s2) : wpAny (model P w) A (call (.type "set") [.ref l]) Q E s := by
  have F1 := F.called_set.made; have F2 := F.called_set.sub; have F3 := F.called_set.notType; have F4 := F.called_set.canCreate; have F5 := F.typeCall_set_1 (.ref l)
  obtain ⟨_, _, F6⟩ := F.called_set.mro
  refine wpAny_call (codeAny_of_tree (show wpAny _ _ (callAny (.type "set") _) _ _ _ from wpAny_pure ⟨Code.quiet_builtin _ (by decide +kernel), codeAny_builtin F.entry_type_call ?_⟩))
  rw [Around.under_plain (weight_type_call_type "set" [.ref l] []) rfl]
  repeat (any_goals (first | assumption | wp_step))
  refine codeAny_mono (code_set_led1 (.ref l) (E := E) (Q₁ := fun o s1 => o = .ref s.heap.objs.size ∧ s1 = pSet w s) ⟨rfl, rfl⟩) fun r s1 q => ?_
  match r, q with
  | .error _, q => exact q
  | .ok (.ret o), q =>
    obtain ⟨rfl, rfl⟩ := q
    have ty : Shared.TypeIs (pSet w s) (.ref s.heap.objs.size) "set" := ⟨_, Heap.get?_push_size _ rfl, rfl⟩
    have I1 := F.called_set.init.lookup
    have I2 := F.called_set.init.bind (.ref s.heap.objs.size)
    repeat (any_goals (first | assumption | wp_step))
    refine codeAny_mono (codeAny_call_builtin (R := wants (fun r s2 => r = .none ∧ doneT P w s ks s2) E) F.called_set.init.plain F.entry_set_init (check_set_init_1 ty (set_init_keys calm hl hi hT hU hin room))) fun r2 s2 q2 => ?_
    match r2, q2 with
    | .error _, q2 => exact q2
    | .ok (.ret o2), q2 =>
      obtain ⟨rfl, d⟩ := q2
      repeat (any_goals (first | assumption | wp_step))
      exact k _ d
    | .ok .next, q2 => exact q2.elim
    | .ok .brk, q2 => exact q2.elim
    | .ok .cont, q2 => exact q2.elim
  | .ok .next, q => exact q.elim
  | .ok .brk, q => exact q.elim
  | .ok .cont, q => exact q.elim
end
section
variable {X : Cx} {W : Res} {ρ : Ro} {pos fp fp2 p2 : Pos} {a : Expr} {xs : List (Tup Int)} {k : Nat}
def rSetKs (P : Program) (w : World) : List V → Hp → VK → Prop := fun vs H Q => ∃ (l : Addr) (ks : List (Addr × List Int)) (U : List (List Int)), vs = [.ref l] ∧ Rd H l (.lst (ks.map fun p => V.ref p.1)) ∧ (∀ p ∈ ks, H p.1 = some (.tup (p.2.map V.int))) ∧ U.length < 63 ∧ (∀ p ∈ ks, p.2 ∈ U) ∧
  ∀ b L, H b = none → (∀ p ∈ L, p ∈ ks) → (∀ p ∈ ks, p.2 ∈ L.map (·.2)) → Q (.ref b) (upd H b (SetTO P w b L))
theorem cr_setKs (hc : X.calm = true) (hu : X.A.units + 3 < cLine) : CallR X (.type "set") (rSetKs X.prog X.w) := by
  intro pins s σ H vs us Q I r h
  obtain ⟨l, ks, U, rfl, hd, hk, hU, hin, q⟩ := h
  obtain ⟨u1, rfl, rx⟩ := vals1 r
  cases rx
  obtain ⟨z, its, n, rv, hl, e⟩ := rd_list I hd
  have il : s.heap.IsList l its.toArray := ⟨_, e, rfl, n, rfl⟩
  refine call_set_keys (P := X.prog) (w := X.w) (U := U) (ks := ks) (I.ok.hd hc) il (by simpa using refs_of_vals rv) (fun p hp => I.isT (.inl (.inl (hk p hp)))) hU hin hu fun s2 ⟨hh, t, e2, ⟨L, es, ep, tb, R, g⟩, kp⟩ => ?_
  subst e2
  refine ⟨.ref _, upd H s.heap.objs.size (SetTO X.prog X.w s.heap.objs.size L), I.laid (t' := t) kp (Nat.le_refl _) (setTO_new R.t0), rfl, q _ L (I.hok.fresh (Nat.le_refl _)) (fun p hp => List.mem_of_mem_take (g.sub p hp)) fun p hp => g.all p (by rw [List.take_length]; exact hp)⟩
theorem rp_tups {G : Hp} : ∀ {ys : List V} {xs : List (Tup Int)}, RpAll G ys (xs.map Datum.toD) → ∃ ks : List (Addr × List Int), ys = ks.map (fun p => V.ref p.1) ∧ ks.map (·.2) = xs.map Tup.items ∧ ∀ p ∈ ks, G p.1 = some (.tup (p.2.map V.int))
  | _, [], h => by
    cases h
    exact ⟨[], rfl, rfl, fun _ z => by cases z⟩
  | _, t :: xs, h => by
    cases h with
    | cons h1 h2 =>
      obtain ⟨ks, e1, e2, h3⟩ := rp_tups h2
      have h1' : Rp G _ (.tuple (t.items.map Datum.toD)) := h1
      cases h1' with
      | @tup b zs _ hb hz =>
        have e3 : zs = t.items.map V.int := rp_ints hz
        subst e3
        exact ⟨(b, t.items) :: ks, by rw [e1, List.map_cons], by rw [List.map_cons, List.map_cons, e2], fun p hp => (List.mem_cons.mp hp).elim (fun e => by rw [e]; exact hb) (h3 p)⟩
theorem code_le {B : Int} : ∀ {ns ms : List Int}, ns.length = ms.length → TS.Bd B ns → TS.Bd B ms → PySem.W.listLt ms ns = true → TS.code B ms < TS.code B ns
  | [], [], _, _, _, h => by cases h
  | x :: ns, y :: ms, hl, h1, h2, h => by
    rw [List.length_cons, List.length_cons] at hl
    unfold PySem.W.listLt at h
    by_cases e : y = x
    · rw [if_pos e] at h
      rw [e]
      exact (TS.code_same (by omega)).mpr (code_le (by omega) h1.tail h2.tail h)
    · rw [if_neg e] at h
      exact TS.code_lt (by omega) h2.tail h1.tail (of_decide_eq_true h)
theorem tn_ssetL {d : Nat} {B : Int} (hr : Room k X.A) (hs : X.mg "sorted" = none) (hm : X.mg "set" = none) (ha : TS X W a ρ xs) (hd : 1 ≤ d) (hB : ∀ t ∈ xs, t.items.length = d ∧ TS.Bd B t.items) (hn : (ddL xs).length < 63) (hc : X.calm = true := by rfl) (hg : Gl X "sorted" := by rfl) (hg2 : Gl X "set" := by rfl) (sa : SA1 X a p2 := by exact ⟨rfl, rfl⟩)
    (sb : SA1 X (.Call (.Name "set" fp2) [a] [] p2) pos := by exact ⟨rfl, rfl⟩) : TN X W (.Call (.Name "sorted" fp) [.Call (.Name "set" fp2) [a] [] p2] [] pos) ρ (ssetL xs) :=
  pe_imp (pe_callB (cr_sortedT hc) hg hs (by decide +kernel) (pa_cons (pe_callTy (cr_setKs hc (u64 hr (by decide))) hg2 hm (by decide +kernel) (pa_cons ha pa_nil sa.h) (he := sa.h) (hpl := sa.b)) pa_nil sb.h) (he := sb.h) (hpl := sb.b)) fun σ H Q ⟨G, c, q⟩ => ⟨G, c, fun p ys G1 H1 g1 h1 r1 => by
    obtain ⟨ks, e1, e2, hk⟩ := rp_tups r1
    subst e1
    have c1 := c.step g1
    have all2 : ∀ p ∈ ks, ∃ t ∈ xs, t.items = p.2 := fun p hp => List.mem_map.mp (by rw [← e2]; exact List.mem_map_of_mem hp)
    refine ⟨p, ks, (ddL xs).map Tup.items, rfl, h1, fun p hp => c1.s _ _ (hk p hp), by rw [List.length_map]; exact hn, fun p hp => ?_, fun b L hb hL1 hL2 => ?_⟩
    · obtain ⟨t, ht, e⟩ := all2 p hp
      exact List.mem_map.mpr ⟨t, ddL_mem.mpr ht, e⟩
    · have g2 : Gw G1 H1 G1 (upd H1 b (SetTO X.prog X.w b L)) := .heap c1.s (same_upd hb)
      have bd : ∀ p ∈ L, p.2.length = d ∧ TS.Bd B p.2 := fun p hp => by
        obtain ⟨t, ht, e⟩ := all2 p (hL1 p hp)
        rw [← e]
        exact hB t ht
      refine ⟨b, L, d, B, rfl, upd_same, fun p hp => .inl (.inl (same_upd hb _ _ (c1.s _ _ (hk p (hL1 p hp))))), hd, bd, fun L' z pm nd _ pw hz => ?_⟩
      have e3 : ssetL xs = L'.map fun q => (⟨q.2⟩ : Tup Int) := by
        refine srt_str ddL_nodup ?_ fun t => ?_
        · refine List.pairwise_map.mpr (List.Pairwise.imp_of_mem (fun {u v} hu hv h => ?_) (pw.and (List.pairwise_map.mp nd)))
          show PySem.W.listLt u.2 v.2 = true
          cases q : PySem.W.listLt u.2 v.2 with
          | true => rfl
          | false =>
            cases q2 : PySem.W.listLt v.2 u.2 with
            | true =>
              have b1 := bd u (pm.mem_iff.mp hu)
              have b2 := bd v (pm.mem_iff.mp hv)
              have := code_le (B := B) (b1.1.trans b2.1.symm) b1.2 b2.2 q2
              have := h.1
              omega
            | false => exact absurd (congrArg Tup.items (lt_tot (a := (⟨u.2⟩ : Tup Int)) (b := ⟨v.2⟩) q q2)) h.2
        · rw [ddL_mem, List.mem_map]
          constructor
          · intro ht
            have hm2 : t.items ∈ ks.map (·.2) := by
              rw [e2]
              exact List.mem_map_of_mem ht
            obtain ⟨p, hp, e⟩ := List.mem_map.mp hm2
            obtain ⟨q, hq, e4⟩ := List.mem_map.mp (hL2 p hp)
            exact ⟨q, pm.mem_iff.mpr hq, by rw [e4, e]⟩
          · rintro ⟨q, hq, rfl⟩
            obtain ⟨t, ht, e⟩ := all2 q (hL1 q (pm.mem_iff.mp hq))
            rw [← e]
            exact ht
      have c2 := c1.step g2
      refine q z _ G1 _ ((g1.trans g2).trans (.heap c2.s (same_upd hz))) ((g1.trans g2).h.free hz) (c2.s.free hz) upd_same ?_
      rw [e3, List.map_map]
      have ok : ∀ M : List (Addr × List Int), (∀ q ∈ M, q ∈ ks) → RpAll G1 (M.map fun q => V.ref q.1) (M.map (Datum.toD ∘ fun q => (⟨q.2⟩ : Tup Int))) := by
        intro M
        induction M with
        | nil => exact fun _ => .nil
        | cons q M ih => exact fun h => .cons (.tup (hk q (h q List.mem_cons_self)) (RpAll.ints q.2)) (ih fun r hr => h r (List.mem_cons_of_mem _ hr))
      exact ok L' fun q hq => hL1 q (pm.mem_iff.mp hq)⟩
theorem tn_ssetE (hr : Room k X.A) (hs : X.mg "sorted" = none) (hm : X.mg "set" = none) (ha : TS X W a ρ xs) (hB : ∃ (d : Nat) (B : Int), 1 ≤ d ∧ ∀ t ∈ xs, t.items.length = d ∧ TS.Bd B t.items) (hn : (ddL xs).length < 63) (hc : X.calm = true := by rfl) (hg : Gl X "sorted" := by rfl) (hg2 : Gl X "set" := by rfl) (sa : SA1 X a p2 := by exact ⟨rfl, rfl⟩)
    (sb : SA1 X (.Call (.Name "set" fp2) [a] [] p2) pos := by exact ⟨rfl, rfl⟩) : TN X W (.Call (.Name "sorted" fp) [.Call (.Name "set" fp2) [a] [] p2] [] pos) ρ (ssetL xs) := by
  obtain ⟨d, B, hd, h⟩ := hB
  exact tn_ssetL hr hs hm ha hd h hn hc hg hg2 sa sb
end
end DL

/-! DL36: methods of two data that hand back a new list; an object as the second of four. -/
namespace DL
open PySem PySem.Spec L2
open PyProof.Rows hiding St
open PySem.W (Datum DatumOrd Tup T3 SomeDatum)
section
variable {S α β γ ζ : Type} [DecidableEq α] [Datum α] [DecidableEq β] [Datum β] [DecidableEq γ] [Datum γ] [DecidableEq ζ] [Datum ζ] {OR : Addr → S → Res}
def N2 (OR : Addr → S → Res) (pre : S → α → β → Prop) (f : S → α → β → List ζ) : List Sl → Res → List PyData → Prop := fun ss W r => ∃ p s a b, ss = [.v (.ref p), En a, En b] ∧ W = OR p s ∧ pre s a b ∧ r = (f s a b).map Datum.toD
theorem N2.len {pre : S → α → β → Prop} {f : S → α → β → List ζ} : ∀ ss W r, N2 OR pre f ss W r → ss.length = 3 := fun ss W r ⟨_, _, _, _, e, _⟩ => by rw [e]; rfl
def O3b (OR : Addr → S → Res) (pre : S → α → β → γ → Prop) (f : S → α → β → γ → ζ) : List Sl → Res → Sl → Prop := fun ss W r => ∃ p s a b c, ss = [En a, .v (.ref p), En b, En c] ∧ W = OR p s ∧ pre s a b c ∧ r = En (f s a b c)
theorem O3b.len {pre : S → α → β → γ → Prop} {f : S → α → β → γ → ζ} : ∀ ss W r, O3b OR pre f ss W r → ss.length = 4 := fun ss W r ⟨_, _, _, _, _, e, _⟩ => by rw [e]; rfl
variable {X : Cx} {W : Res} {ρ : Ro} {pos fp apos : Pos} {o ea eb ec : Expr} {k j : Nat} {x m : Str} {ps : List Str} {a : α} {b : β} {c : γ} {s : S} {p C : Addr}
theorem on2 {pl : Sem Bool} {pre : S → α → β → Prop} {f : S → α → β → List ζ} (F : MtN X.prog X.w X.K X.mg X.base j C m ps (N2 OR pre f)) (cl : Cls X.K C) (iso : IsO OR C m) (hr : Room k X.A) (ho : DE X W o ρ (.v (.ref p))) (hW : ∀ G H, Same G H → W.p G H → (OR p s).p G H) (h1 : DE X W ea ρ (En a)) (h2 : DE X W eb ρ (En b)) (hp : pre s a b) (hj : j ≤ k := by decide)
    (sa : SAs X ea [eb] pos := by exact ⟨rfl, rfl⟩) (sb : SAs X eb [] pos := by exact ⟨rfl, rfl⟩)
    (ht : eval (.Call (.Attribute o m apos) [ea, eb] [] pos) X.env = (do
      let ov ← eval o X.env
      standAt apos.atName
      let (f, first) ← holding [ov] (getMethod ov m pl)
      callWith pos f first (backTo pos (starEach [ea, eb] X.env)) (backToKw pos (keywordEach [] X.env))) := by rfl) : TN X W (.Call (.Attribute o m apos) [ea, eb] [] pos) ρ (f s a b) := by
  obtain ⟨f, fd, hm, h3, h4⟩ := F
  exact pe_imp (pe_meth (pl := pl) (E := E0) ho cl hm h4 (hr.mono hj) h3 .nil L2.pass0 (da_cons h1 (da_cons h2 da_nil sb.he) sa.he) sa.he sa.hpl ht) fun σ H Q ⟨G, c, q⟩ => ⟨G, c, fun v G1 H1 g1 r1 => by
    have ev : v = .ref p := r1
    subst ev
    have c1 := c.step g1
    obtain ⟨dx, fs, h5, h6⟩ := iso p s G1 H1 (hW G1 H1 c1.s c1.w)
    exact ⟨p, dx, fs, rfl, h5, h6, G1, c1, fun vs G2 H2 g2 r2 => by
      show SpN _ (V.ref p :: (vs ++ [])) H2 Q _
      rw [List.append_nil]
      have c2 := c1.step g2
      exact ⟨G2, .v (.ref p) :: [En a, En b], OR p s, _, c2.s, hW _ _ c2.s c2.w, .cons rfl r2, ⟨p, s, a, b, rfl, rfl, hp, rfl⟩, fun p2 xs G' H' g' hp2 gp hh hx => q p2 xs G' H' ((g1.trans g2).trans g') ((g1.trans g2).h.free hp2) gp hh hx⟩⟩⟩
theorem og3b {pre : S → α → β → γ → Prop} {f : S → α → β → γ → ζ} (F : FnG X.prog X.w X.K X.mg X.base j x ps (O3b OR pre f)) (hr : Room k X.A) (ho : DE X W o ρ (.v (.ref p))) (hW : ∀ G H, Same G H → W.p G H → (OR p s).p G H) (h1 : DE X W ea ρ (En a)) (h2 : DE X W eb ρ (En b)) (h3 : DE X W ec ρ (En c)) (hp : pre s a b c) (hj : j ≤ k := by decide) (hg : Gl X x := by rfl) (hdb : (x == ("__debug__" : Str)) = false := by decide)
    (sa : SAs X ea [o, eb, ec] pos := by exact ⟨rfl, rfl⟩) (sb : SAs X o [eb, ec] pos := by exact ⟨rfl, rfl⟩) (sc : SAs X eb [ec] pos := by exact ⟨rfl, rfl⟩) (sd : SAs X ec [] pos := by exact ⟨rfl, rfl⟩) : DE X W (.Call (.Name x fp) [ea, o, eb, ec] [] pos) ρ (En (f s a b c)) :=
  de_call F hr (da_cons h1 (da_cons ho (da_cons h2 (da_cons h3 da_nil sd.he) sc.he) sb.he) sa.he) hW ⟨p, s, a, b, c, rfl, rfl, hp, rfl⟩ hj hg hdb sa.he sa.hpl
end
end DL

/-! DL37: defs of two objects; of a new object and a datum; defs that make a web. -/
namespace DL
open PySem PySem.Spec L2
open PyProof.Rows hiding St
open PySem.W (Datum DatumOrd Tup T3 SomeDatum)
section
variable {S U ζ : Type} [DecidableEq ζ] [Datum ζ]
def OO0 (OR : Addr → S → Res) (OU : Addr → U → Res) (pre : S → U → Prop) (f : S → U → ζ) : List Sl → Res → Sl → Prop := fun ss W r => ∃ p s q u, ss = [.v (.ref p), .v (.ref q)] ∧ W = (OR p s).and (OU q u) ∧ pre s u ∧ r = En (f s u)
theorem OO0.len {OR : Addr → S → Res} {OU : Addr → U → Res} {pre : S → U → Prop} {f : S → U → ζ} : ∀ ss W r, OO0 OR OU pre f ss W r → ss.length = 2 := fun ss W r ⟨_, _, _, _, e, _⟩ => by rw [e]; rfl
variable {X : Cx} {W : Res} {ρ : Ro} {pos fp : Pos} {o e : Expr} {k j : Nat} {x : Str} {ps : List Str} {s : S} {u : U} {p q : Addr} {OR : Addr → S → Res} {OU : Addr → U → Res}
theorem ogg0 {pre : S → U → Prop} {f : S → U → ζ} (F : FnG X.prog X.w X.K X.mg X.base j x ps (OO0 OR OU pre f)) (hr : Room k X.A) (ho : DE X W o ρ (.v (.ref p))) (he : DE X W e ρ (.v (.ref q))) (hW : ∀ G H, Same G H → W.p G H → ((OR p s).and (OU q u)).p G H) (hp : pre s u) (hj : j ≤ k := by decide) (hg : Gl X x := by rfl) (hdb : (x == ("__debug__" : Str)) = false := by decide)
    (sa : SAs X o [e] pos := by exact ⟨rfl, rfl⟩) (sb : SAs X e [] pos := by exact ⟨rfl, rfl⟩) : DE X W (.Call (.Name x fp) [o, e] [] pos) ρ (En (f s u)) :=
  de_call F hr (da_cons ho (da_cons he da_nil sb.he) sa.he) hW ⟨p, s, q, u, rfl, rfl, hp, rfl⟩ hj hg hdb sa.he sa.hpl
end
section
variable {X : Cx} {W : Res} {ρ : Ro} {pos fp : Pos} {a e1 : Expr} {k j : Nat} {x : Str} {ps : List Str} {p : Addr} {s1 r : Sl} {R : List Sl → Res → Sl → Prop} {Post : PostT}
/-- f(g(..), e1), g making an object -/
theorem de_callD1 (F : FnG X.prog X.w X.K X.mg X.base j x ps R) (hr : Room k X.A) (he : DX X W a ρ [] Post) (h1 : DE X W e1 ρ s1) (hP : ∀ N W1 r1, Post N W1 r1 → (∃ p, r1 = .v (.ref p)) ∧ ∃ W0, (∀ G H, Same G H → W1.p G H → W0.p G H) ∧ R [r1, s1] W0 r) (hj : j ≤ k := by decide) (hg : Gl X x := by rfl) (hdb : (x == ("__debug__" : Str)) = false := by decide)
    (sa : SAs X a [e1] pos := by exact ⟨rfl, rfl⟩) (sb : SAs X e1 [] pos := by exact ⟨rfl, rfl⟩) : DE X W (.Call (.Name x fp) [a, e1] [] pos) ρ r := by
  obtain ⟨f, fd, f1, f2, f3, f4⟩ := F
  exact pe_imp (pe_call (E := E0) f4 (hr.mono hj) hg f1 f2 f3 .nil L2.pass0 (pa_cons he (pa_cons h1 pa_nil sb.he) sa.he) hdb sa.he sa.hpl) fun σ H Q ⟨G, c, q⟩ => ⟨G, c, fun d hd => (by cases hd), fun N W1 r1 v G1 H1 hP1 hN1 g1 hw1 rv => by
    rw [cut_nil] at g1
    obtain ⟨⟨p, rfl⟩, W0, hW0, hR⟩ := hP N W1 r1 hP1
    have c1 := c.step g1
    refine ⟨G1, c1, fun v2 G2 H2 g2 r2 => ?_⟩
    have hw2 := W1.mono g1.i g2 hw1
    have z : ∀ E : XK, SpD R [v, v2] H2 Q E := fun E => ⟨G2, [.v (.ref p), s1], W0, r, g2.i, hW0 _ _ g2.i hw2, .cons rv (.cons r2 .nil), hR, fun u G4 H4 g4 r4 => q u G4 H4 ((g1.trans g2).trans g4) r4⟩
    exact z E0⟩
end
/-- a def of three data that makes a web -/
def MW3 {α β γ : Type} [DecidableEq α] [Datum α] [DecidableEq β] [Datum β] [DecidableEq γ] [Datum γ] (C : Addr) (pre : α → β → γ → Prop) (n : α → Int) (f : α → β → γ → List (Int × Int)) : List Sl → Res → List Addr → PostT → Prop := fun ss W ds Post => ∃ a b c, ss = [En a, En b, En c] ∧ W = R0 ∧ pre a b c ∧ ds = [] ∧ Post = fun N W' r => ∃ p d, N = [p, d] ∧ W' = WebR C p ⟨d, n a, f a b c⟩ ∧ r = .v (.ref p) ∧ d ≠ p
end DL

/-! DL38: (a, b)[::-1]; list(tuple). -/
namespace DL
open PySem PySem.Spec L2
open PyProof.Rows hiding St
open PySem.W (Datum DatumOrd Tup T3 SomeDatum)
section
variable {prog : Program} {w : World} {A : Around} {E : Value → Shared → Prop} {s : Shared}
theorem rev2_item {t sl : Addr} {a b vl vu vs : Value} {Q : Value → Shared → Prop} (tt : IsTup s.heap t #[a, b]) (ts : s.heap.IsSliceOf sl vl vu vs) (pl : IsPart vl none) (pu : IsPart vu none) (ps : IsPart vs (some (-1)))
    (kk : Q (.ref s.heap.objs.size) { s with heap := s.heap.push { cls := .type "tuple", data := .seq #[b, a] } }) : wpAny (model prog w) A (getItem (.ref t) (.ref sl)) Q E s := by
  obtain ⟨o1, at1, cl1, dt1⟩ := id ts
  have ty : s.TypeIs (.ref sl) "slice" := ⟨o1, at1, cl1⟩
  have ok : sizeOk (.seq #[b, a]) := by
    show (2 : Nat) ≤ sizeLine
    rw [sizeLine_eq]
    omega
  unfold getItem
  try with_reducible refine wpAny_holding ?_
  first | refine wpAny_bind (wpAny_pure ?_) | skip
  refine wpAny_bind (wpAny_sequenceKey tt.typeIs (by decide) (wpAny_bind (wpAny_callSpecial?_slot (name := Str.ofString "__getitem__") tt.typeIs PyProof.Rows.slot_tuple_getitem (wpAny_call_entry PyProof.Rows.slot_tuple_getitem tt.typeIs entry_tuple_getitem ?_ (args_tuple_getitem _ _)))))
  show wpAny _ _ (Builtin.Tuple.tupleItemsOf (.ref t) >>= _) _ _ s
  refine wpAny_bind (tupleItemsOf_ tt (wpAny_bind (wpAny_typeOf ty ?_)))
  rw [if_pos (by decide)]
  refine wpAny_bind ?_
  unfold Builtin.Slice.sliceApplied Builtin.Slice.sliceFields
  refine wpAny_bind (wpAny_bind (wpAny_field at1 dt1 (x := vl) rfl (wpAny_bind (wpAny_field at1 dt1 (x := vu) rfl (wpAny_bind (wpAny_field at1 dt1 (x := vs) rfl (wpAny_pure ?_)))))))
  refine wpAny_bind (HT.slicePart_ ps ?_)
  show wpAny _ _ (if ((-1 : Int) == 0) = true then _ else _) _ _ s
  rw [if_neg (by decide)]
  refine wpAny_bind (HT.slicePart_ pl (wpAny_bind (HT.slicePart_ pu (wpAny_bind (wpAny_pure ?_)))))
  have adj : Builtin.Slice.sliceAdjust none none (-1) (2 : Int) = ((1 : Int), (-1 : Int)) := by decide +kernel
  have plc : Builtin.Slice.slicePlaces 1 (-1) (-1) = 2 := by decide +kernel
  show wpAny _ _ (match Builtin.Slice.sliceAdjust none none (-1) (2 : Int) with | (lo, hi) => pure (lo, (-1 : Int), Builtin.Slice.slicePlaces lo hi (-1))) _ _ s
  rw [adj]
  show wpAny _ _ (pure ((1 : Int), (-1 : Int), Builtin.Slice.slicePlaces 1 (-1) (-1))) _ _ s
  rw [plc]
  refine wpAny_pure ?_
  show wpAny _ _ (if ((1 : Int) == 0 && (-1 : Int) == 1 && (2 : Nat) == 2) = true then _ else _) _ _ s
  rw [if_neg (by decide)]
  have pick : ((List.range 2).filterMap fun (k : Nat) => (#[a, b] : Array Value)[((1 : Int) + (k : Int) * (-1)).toNat]?).toArray = #[b, a] := rfl
  first
    | (refine wpAny_bind (m := Builtin.Tuple.tupleExact _) ?_; rw [pick]; exact wpAny_newObj_type (wpAny_pure ⟨_, rfl, wpAny_pure kk⟩) ok)
    | (rw [pick]; exact wpAny_bind (m := Builtin.Tuple.tupleExact _) (wpAny_newObj_type (wpAny_bind (wpAny_pure (wpAny_pure ⟨_, rfl, wpAny_pure kk⟩))) ok))
    | (rw [pick]; exact wpAny_bind (wpAny_bind (m := Builtin.Tuple.tupleExact _) (wpAny_newObj_type (wpAny_pure (wpAny_pure ⟨_, rfl, wpAny_pure kk⟩)) ok)))
    | (rw [pick]; exact wpAny_bind (wpAny_bind (m := Builtin.Tuple.tupleExact _) (wpAny_newObj_type (wpAny_pure ⟨_, rfl, wpAny_pure kk⟩) ok)))
end
section
variable {X : Cx}
def tRev2 (te : TE) : TE := fun σ H Q => te σ H fun x H1 => ∃ a p q, x = .ref a ∧ H1 a = some (.tup [p, q]) ∧ ∀ d, H1 d = none → Q (.ref d) (upd H1 d (.tup [q, p]))
theorem pe_rev2 {e : Expr} {te : TE} {k : Nat} {p1 p2 p3 pos : Pos} (he : PE X e te) : PE X (.Subscript e (.Slice none none (some (.UnaryOp .USub (.Constant (.int 1) k p1) p2)) p3) pos) (tRev2 te) := by
  refine ⟨fun pins q0 σ H Q I0 wish => Subscript_ (thn (he.run pins q0 σ H _ I0 wish) fun v q1 first => ?_)⟩
  obtain ⟨x, HA, IA, rx, l, p, q, rfl, isT, kk⟩ := first
  cases rx
  have step : PO X (some (.UnaryOp .USub (.Constant (.int 1) k p1) p2)) (tPart (tUn (rU fun i => .int (-i)) (tC (.int 1)))) := po_some (pe_un un_neg pe_int)
  refine wpAny_Slice (thn (po_none.run pins q1 σ HA (fun o HB => o = none ∧ HB = HA) IA ⟨rfl, rfl⟩) fun vl q2 z1 => ?_)
  obtain ⟨lo, HB, IB, isLo, rfl, rfl⟩ := z1
  refine thn (po_none.run pins q2 σ HB (fun o HC => o = none ∧ HC = HB) IB ⟨rfl, rfl⟩) fun vu q3 z2 => ?_
  obtain ⟨hi, HC, IC, isHi, rfl, rfl⟩ := z2
  refine thn (step.run pins q3 σ HC (fun o HE => o = some (-1) ∧ HE = HC) IC ⟨1, rfl, -1, rfl, rfl, rfl⟩) fun vs q4 z3 => ?_
  obtain ⟨by2, HE, IE, isBy, rfl, rfl⟩ := z3
  have IS : Inv X pins σ HE { q4 with heap := q4.heap.push { cls := .type "slice", data := .fields #[vl, vu, vs] } } := IE.kept (t' := q4.toks) fun _ _ z => Heap.get?_push_of_some _ z
  obtain ⟨its, rel, there, room⟩ := IS.tuple (.inl (.inl isT))
  obtain ⟨u1, its1, rfl, r1, rel1⟩ : ∃ u us, its = u :: us ∧ RelV p u ∧ Vals [q] us := by
    cases rel with
    | cons a b => exact ⟨_, _, rfl, a, b⟩
  obtain ⟨u2, rfl, r2⟩ : ∃ u, its1 = [u] ∧ RelV q u := by
    cases rel1 with
    | cons a b =>
      cases b
      exact ⟨_, rfl, a⟩
  show wpAny (model X.prog X.w) X.A (subscriptTail e (.Slice none none (some (.UnaryOp .USub (.Constant (.int 1) k p1) p2)) p3) (.ref l) (.ref q4.heap.objs.size)) (EP X pins σ Q) X.xe _
  refine tail_any (ops := [.ref l, .ref q4.heap.objs.size]) there.typeIs (PyProof.Rows.slot_tuple_getitem.lookup) ?_ (by with_unfolding_all rfl)
  refine rev2_item (a := u1) (b := u2) there (Heap.IsSliceOf.new _ vl vu vs) isLo isHi isBy ?_
  exact ⟨.ref _, _, IS.laid (t' := q4.toks) (o := .tup [q, p]) (fun _ _ z => Heap.get?_push_of_some _ z) (Nat.le_refl _) ⟨by show (2 : Nat) ≤ sizeLine; rw [sizeLine_eq]; omega, [u2, u1], .cons r2 (.cons r1 .nil), _, Heap.get?_push_size _ rfl, rfl, _, rfl⟩, rfl, kk _ (IS.hok.fresh (Nat.le_refl _))⟩
end
section
variable {X : Cx} {W : Res} {ρ : Ro} {pos p1 p2 p3 fp : Pos} {a : Expr} {k : Nat}
theorem de_rev2 {x y : PyData} (ha : DE X W a ρ (.d (.tuple [x, y]))) : DE X W (.Subscript a (.Slice none none (some (.UnaryOp .USub (.Constant (.int 1) k p1) p2)) p3) pos) ρ (.d (.tuple [y, x])) :=
  pe_imp (pe_rev2 ha) fun σ H Q ⟨G, c, q⟩ => ⟨G, c, fun v G1 H1 g1 r1 => by
    cases r1 with
    | tup h1 h2 =>
      cases h2 with
      | cons rx t =>
        cases t with
        | cons ry t =>
          cases t
          rename_i vx vy
          have c1 := c.step g1
          refine ⟨_, _, _, rfl, c1.s _ _ h1, fun d hd => ?_⟩
          have g4 := Gw.new (o := .tup [vy, vx]) c1.s hd
          exact q _ _ _ (g1.trans g4) (.tup upd_same (.cons (rp_mono g4.g _ _ ry) (.cons (rp_mono g4.g _ _ rx) .nil)))⟩
theorem dn_listT {ds : List PyData} (hm : X.mg "list" = none) (ha : DE X W a ρ (.d (.tuple ds))) (hg : Gl X "list" := by rfl) (sa : SA1 X a pos := by exact ⟨rfl, rfl⟩) : DN X W (.Call (.Name "list" fp) [a] [] pos) ρ ds :=
  pe_imp (pe_callTy call_list_of hg hm (by decide +kernel) (pa_cons ha pa_nil sa.h) (he := sa.h) (hpl := sa.b)) fun σ H Q ⟨G, c, q⟩ => ⟨G, c, fun v G1 H1 g1 r1 => by
    cases r1 with
    | tup h1 h2 =>
      have c1 := c.step g1
      exact ⟨_, _, rfl, .inr (.inl (.inl (c1.s _ _ h1))), fun l hl => q l _ G1 _ (g1.trans (.heap c1.s (same_upd hl))) (g1.h.free hl) (c1.s.free hl) upd_same h2⟩⟩
end
end DL

/-! DL39: an own exception class whose __init__ calls its base's and keeps a field; try without a name. -/
namespace DL
open PySem PySem.Spec L2
open PyProof.Rows hiding St
open PySem.W (Datum DatumOrd Tup T3 Holds HoldAll EachIs SomeDatum)
section
variable {X : Cx} {e : Expr} {es : List Expr} {ta : L2.TA} {p1 p2 pos : Pos} {x : Str} {B : Addr}
/-- B.__init__(self, ..) -/
theorem pe_hinit {pl : Sem Bool} (hg : Gl X x) (hm : X.mg x = some (.ref B)) (hb : HinC X.K B) (ha : PA X (e :: es) ta) (hdb : (x == ("__debug__" : Str)) = false := by decide)
    (hc : eval (.Call (.Attribute (.Name x p1) "__init__" p2) (e :: es) [] pos) X.env = (do
      let ov ← eval (.Name x p1) X.env
      standAt p2.atName
      let (f, first) ← holding [ov] (getMethod ov "__init__" pl)
      callWith pos f first (backTo pos (starEach (e :: es) X.env)) (backToKw pos (keywordEach [] X.env))) := by rfl)
    (he : starEach (e :: es) X.env = (false, eval e X.env) :: starEach es X.env := by rfl) (hpl : (backTo pos (starEach es X.env)).any (·.1) = false := by rfl) :
    PE X (.Call (.Attribute (.Name x p1) "__init__" p2) (e :: es) [] pos) (tVeI X.K ta) := by
  refine ⟨fun pins s σ H Q I h => ?_⟩
  refine PySem.W.methodCall_KW (ld_glob I hg hm ?_ hdb) hc
  refine PySem.W.method_cls I.kIn hb.cr.ga (PySem.W.cls_value I.kIn hb.cr.rd hb.at_ (by decide +kernel) ?_)
  show wpAny _ _ (callWith pos (Value.builtin "ValueError.__init__") [] (backTo pos (starEach (e :: es) X.env)) []) _ _ _
  refine PyProof.Rows.callWith_method1 (thn (ha.run pos pins _ σ H _ (I.tok _) h) fun us s1 ⟨vs, H1, I1, r1, a, C, ws, ev, hl, T, ea, q⟩ => ?_) he hpl
  subst ev
  cases r1 with
  | @cons _ u0 _ ur ra rw' =>
    obtain rfl : u0 = Value.ref a := ra
    have hlen : ur.length ≤ sizeLine := by
      rw [← Paired.length rw', sizeLine_eq]
      omega
    exact oinit_ok T I1 ea hlen fun s' J => ⟨.non, H1, J, rfl, q⟩
end
/-- what such an __init__ leaves: the exception a of C, its field f -/
def SpBI (K : PySem.W.Frag) (C : Addr) (f : Str) : Sp := fun vs H Q _ => ∃ (a : Addr) (i : Int), vs = [.ref a, .int i] ∧ OexC K C ∧ PySem.W.findIn K (.ref C) f = some none ∧ H a = some (exo a C none) ∧ ∀ d, H d = none → d ≠ a → Q .non (upd (upd H d (exd d [(f, .int i)])) a (exo a C (some d)))
/-- a def that raises c, n its field f -/
def SpF (f : Str) (R : List Sl → Res → Value → Int → Prop) : Sp := fun vs H _ E => ∃ G ss W c n, Same G H ∧ W.p G H ∧ RepL G vs ss ∧ R ss W c n ∧ ∀ G' H' d, Gw G H G' H' → G' d = none → H d = none → H' d = some (.xd [(f, .int n)]) → E c (some d) H'
/-- what is wished of such an exception -/
def wF (G0 H0 G1 : Hp) (W : Res) (ρ : Ro) (c : Value) (f : Str) (n : Int) : WX := fun cls d σ H => cls = c ∧ ∃ dd, d = some dd ∧ ∃ G', (Gw G0 H0 G' H ∧ Same G1 G' ∧ Cxt W ρ G' σ H) ∧ G' dd = none ∧ H0 dd = none ∧ H dd = some (.xd [(f, .int n)])
def raisedF (G0 H0 : Hp) (c : Value) (f : Str) (n : Int) : WX := fun cls d _ H => cls = c ∧ ∃ dd G', d = some dd ∧ Gw G0 H0 G' H ∧ G' dd = none ∧ H0 dd = none ∧ H dd = some (.xd [(f, .int n)])
def tRF (W : Res) (ρ : Ro) (We : WX) (c : Value) (f : Str) (n : Int) : TE := fun σ H _ => ∃ G, Cxt W ρ G σ H ∧ ∀ G' H' d, Gw G H G' H' → G' d = none → H d = none → H' d = some (.xd [(f, .int n)]) → We c (some d) σ H'
abbrev RXF (X : Cx) (We : WX) (W : Res) (e : Expr) (ρ : Ro) (c : Value) (f : Str) (n : Int) : Prop := PE X e (tRF W ρ We c f n)
section
variable {P : Program} {w : World} {K : PySem.W.Frag} {mg : Str → Option Value} {base : Heap}
def InitX (P : Program) (w : World) (K : PySem.W.Frag) (mg : Str → Option Value) (base : Heap) (k : Nat) (C : Addr) (f : Str) (ps : List Str) : Prop :=
  ∃ fI fd, PySem.W.findIn K (.ref C) "__init__" = some (some (.ref fI)) ∧ PySem.W.typeIn K (.ref fI) = some (.type "function") ∧ Binds K fd ps [] ∧ FnOk P w K mg base L2.CX0 k fI fd ps (SpBI K C f)
def FnF (P : Program) (w : World) (K : PySem.W.Frag) (mg : Str → Option Value) (base : Heap) (k : Nat) (x : Str) (ps : List Str) (f : Str) (R : List Sl → Res → Value → Int → Prop) : Prop :=
  ∃ fa fd, mg x = some (.ref fa) ∧ PySem.W.keepIn K (.ref fa) = true ∧ Binds K fd ps [] ∧ FnOk P w K mg base (L2.CX P w) k fa fd ps (SpF f R)
theorem fn_rF {x qual : Str} {params : Arguments} {body : List Stmt} {scope : Scope} {dvs : List V} {kws : List (Str × V)} {fa : Addr} {fd : FuncData} {N ps : List Str} {k : Nat} {f : Str} {R : List Sl → Res → Value → Int → Prop} (F : FunD K x qual params body scope dvs kws fa fd) (S : FnScope N ps scope)
    (len : ∀ ss W c n, R ss W c n → ss.length = ps.length)
    (hb : ∀ (cdv : Value) (A : Around) (outer : List Env) (s : Shared) (G0 H0 : Hp) (E : XK) ss W c n, Room k (A.deeper (envOfC qual scope s.heap.objs.size fa cdv)) → R ss W c n → Takes (cxOf (L2.CX P w) P w K mg base N qual scope fa cdv A outer s H0 E) (raisedF G0 H0 c f n) →
      DSs (cxOf (L2.CX P w) P w K mg base N qual scope fa cdv A outer s H0 E) body (At G0 H0 G0 W (startR N ss)) noEnd) : FnOk P w K mg base (L2.CX P w) (k + 1) fa fd ps (SpF f R) := by
  refine FunD.ok F S (fun vs H Q E ⟨G, ss, W, c, n, _, _, h, hR, _⟩ => by rw [h.length]; exact len _ _ _ _ hR) fun cdv A outer s H vs Q E hr ⟨G, ss, W, c, n, hs, hw, h, hR, k⟩ => ?_
  refine ⟨tB (cxOf (L2.CX P w) P w K mg base N qual scope fa cdv A outer s H E) body, ⟨fun pins s2 σ2 H2 D2 I2 ⟨P2, h2, p2⟩ => h2.run pins s2 σ2 H2 I2 p2⟩, ?_⟩
  have tk : Takes (cxOf (L2.CX P w) P w K mg base N qual scope fa cdv A outer s H E) (fun cls d _ H' => E cls d H') := takes_of rfl rfl rfl rfl
  have d := hb cdv A outer s G H E ss W c n hr hR (tk.imp fun cls d σ H' ⟨e1, dd, G', e2, g, z1, z2, z3⟩ => by
    rw [e1, e2]
    exact k G' H' dd g z1 z2 z3)
  refine ⟨At G H G W (startR N ss), ⟨fun pins s2 σ2 H2 I2 p2 => ?_⟩, G, .refl hs, Same.refl _, hs, hw, env_start h⟩
  refine wpAny_mono (d.run pins s2 σ2 H2 I2 p2) (fun fl s3 q => ?_) fun _ _ z => z
  cases fl with
  | next =>
    obtain ⟨_, _, _, z⟩ := q
    exact z.elim
  | ret u =>
    obtain ⟨_, _, _, _, _, z⟩ := q
    exact z.elim
  | brk =>
    obtain ⟨_, _, _, z⟩ := q
    exact z.elim
  | cont =>
    obtain ⟨_, _, _, z⟩ := q
    exact z.elim
end
section
variable {X : Cx} {We : WX} {W W0 : Res} {ρ : Ro} {pos fp apos : Pos} {e o : Expr} {es : List Expr} {ss : List Sl} {c : Value} {k j : Nat} {x m f : Str} {n : Int} {ps : List Str} {R : List Sl → Res → Value → Int → Prop} {C p : Addr}
theorem rx_callF (F : FnF X.prog X.w X.K X.mg X.base j x ps f R) (tk : Takes X We) (hr : Room k X.A) (ha : DA X W (e :: es) ρ ss) (hW : ∀ G H, Same G H → W.p G H → W0.p G H) (hR : R ss W0 c n) (hj : j ≤ k := by decide) (hg : Gl X x := by rfl) (hdb : (x == ("__debug__" : Str)) = false := by decide)
    (he : starEach (e :: es) X.env = (false, eval e X.env) :: starEach es X.env := by rfl) (hpl : (backTo pos (starEach es X.env)).any (·.1) = false := by rfl) : RXF X We W (.Call (.Name x fp) (e :: es) [] pos) ρ c f n := by
  obtain ⟨fa, fd, h1, h2, h3, h4⟩ := F
  exact pe_imp (pe_callS (E := WE We) h4 (hr.mono hj) hg h1 h2 h3 (fun σ => passAt tk σ) ha hdb he hpl) fun σ H Q ⟨G, cx, q⟩ => ⟨G, cx, fun vs G1 H1 g1 r1 =>
    ⟨G1, ss, W0, c, n, g1.i, hW _ _ g1.i (cx.step g1).w, r1, hR, fun G2 H2 d g2 z1 z2 z3 => q G2 H2 d (g1.trans g2) z1 (g1.h.free z2) z3⟩⟩
end
/-! statements -/
section
variable {X : Cx} {G0 H0 G1 : Hp} {We : WX} {W : Res} {ρ : Ro} {D : Ends} {pos pos' p p2 : Pos} {e : Expr} {rest : List Stmt} {C : Addr} {c : Value} {x f : Str} {n : Int} {k j : Nat} {ps : List Str}
theorem d_setRF {i : Nat} {y : Str} (hN : X.N.Nodup) (he : RXF X We W e ρ c f n) (hw : ∀ cls d σ H, wF G0 H0 G1 W ρ c f n cls d σ H → We cls d σ H) (hi : X.N[i]? = some y := by rfl) (hx : Loc X.env.scope y := by first | exact Or.inl rfl | exact Or.inr rfl)
    (hs : swapsWith e (some (.Name y p)) pos.line X.env = pure false := by rfl) (hf : X.fn y = true ∨ X.env.scope.names.lookup y = some .local := by first | exact Or.inl rfl | exact Or.inr rfl) : DSs X (.Assign [.Name y p] e pos :: rest) (At G0 H0 G1 W ρ) D :=
  d_cons (M := fun _ _ => False) (dst_of (ps_set hN hi hx he hs hf) fun σ H ⟨G, g, q, cx⟩ => ⟨G, cx, fun G' H' d g' z1 z2 z3 => hw _ _ _ _ ⟨rfl, d, rfl, G', ⟨g.trans g', q.trans g'.g, cx.step g'⟩, z1, g.h.free z2, z3⟩⟩) ⟨fun _ _ _ _ _ z => z.elim⟩
/-- raise X(e), X's own __init__ keeping e in f -/
theorem d_raiseF (hc : X.calm = true) (tk : Takes X We) (T : OexC X.K C) (Fi : InitX X.prog X.w X.K X.mg X.base j C f ps) (hno : PySem.W.findIn X.K (.ref C) f = some none) (hr : Room k X.A) (gC : X.mg x = some (.ref C)) (ha : DE X W e ρ (En n))
    (h : ∀ cls d σ H, wF G0 H0 G1 W ρ (.ref C) f n cls d σ H → We cls d σ H) (hj : j + 1 ≤ k := by decide) (hg : Gl X x := by rfl) (hdb : (x == ("__debug__" : Str)) = false := by decide)
    (he : starEach [e] X.env = (false, eval e X.env) :: starEach [] X.env := by rfl) (hpl : (backTo pos (starEach [] X.env)).any (·.1) = false := by rfl) :
    DSs X (.Raise (some (.Call (.Name x p) [e] [] pos)) none pos' :: rest) (At G0 H0 G1 W ρ) D := by
  obtain ⟨fI, fd, h1, h2, h3, h4⟩ := Fi
  refine d_cons (M := fun _ _ => False) (dst_of (ps_raise hc tk (pmk_oex T h1 h2 h4 (hr.mono hj) h3 .nil L2.pass0 hg gC (da_cons ha da_nil he) hdb he hpl)) fun σ H ⟨G, g, q, cx⟩ => ⟨G, cx, fun vs G' H' g' r => ?_⟩) ⟨fun _ _ _ _ _ z => z.elim⟩
  cases r with
  | cons rv t =>
    cases t
    cases rv
    refine ⟨(by show 1 ≤ 1000; decide), fun a ha' => ⟨a, n, rfl, T, hno, upd_same, fun d hd hne => ?_⟩⟩
    have hd' : H' d = none := by
      rw [upd_ne hne] at hd
      exact hd
    refine ⟨rfl, d, [(f, .int n)], upd_same, by rw [upd_ne hne, upd_same], hd', ?_⟩
    have sm : Same H' (upd (del (upd (upd (upd H' a (exo a C none)) d (exd d [(f, .int n)])) a (exo a C (some d))) a) d (.xd [(f, .int n)])) := fun b u z => by
      have na : b ≠ a := ne_of_none z ha'
      rw [upd_ne (ne_of_none z hd'), del_ne na, upd_ne na, upd_ne (ne_of_none z hd'), upd_ne na]
      exact z
    have c1 := cx.step g'
    have g2 : Gw G' H' G' _ := .heap c1.s sm
    exact h _ _ _ _ ⟨rfl, d, rfl, G', ⟨(g.trans g').trans g2, q.trans g'.g, c1.step g2⟩, c1.s.free hd', (g.trans g').h.free hd', upd_same⟩
end
/-! try .. except x: without a name -/
section
variable {X : Cx} {G0 H0 G1 : Hp} {W : Res} {ρ : Ro} {D : Ends} {M : L2.St → Hp → Prop} {pos pos' np : Pos} {rest body suite : List Stmt} {b₀ : Stmt} {x : Str} {c : Value} {C : Addr}
/-- the body raises C -/
theorem d_tryO (hs : X.stack = X.env :: X.outer) (hf : X.env.frame = some X.env.locals) (tk : Takes X (fun _ _ _ _ => False)) (hc : Names X x c) (hm : PySem.W.exmOne X.K (.ref C) c = some true)
    (hb : ∀ (pn : List (Addr × Obj)) (xe : Value → Shared → Prop), Takes (X.tr pn xe) (fun cls d σ H => cls = .ref C ∧ d = none ∧ At G0 H0 G1 W ρ σ H) → DSs (X.tr pn xe) body (At G0 H0 G1 W ρ) noEnd)
    (hsu : ∀ (a : Addr) (oe : Obj) (pn : List (Addr × Obj)), DSs (X.suite a ((a, oe) :: pn)) (b₀ :: suite) (At G0 H0 G1 W ρ) { D with nx := M })
    (k : DSs X rest M D) :
    DSs X (.Try body [.ExceptHandler (some (.Name x np)) none (b₀ :: suite) pos'] [] [] pos :: rest) (At G0 H0 G1 W ρ) D := by
  refine d_cons (M := M) ?_ k
  refine dst_of (ps_try_only (c := c) (tb := fun We D σ H => ∃ P, (∀ pn xe, Takes (X.tr pn xe) We → DSs (X.tr pn xe) body P D) ∧ P σ H) (ts := fun a _ _ D' σ H => (∀ (oe : Obj) pn, DSs (X.suite a ((a, oe) :: pn)) (b₀ :: suite) (At G0 H0 G1 W ρ) D') ∧ At G0 H0 G1 W ρ σ H) hs hf hc tk (fun We pn xe tk' _ => ⟨fun pins s σ H D I ⟨P, h, p⟩ => (h pn xe tk').run pins s σ H I p⟩)
    (fun a oe cls d pn _ _ => ⟨fun pins s σ H D I ⟨h, p⟩ => (h oe pn).run pins s σ H I p⟩)) fun σ H at0 => ⟨At G0 H0 G1 W ρ, fun pn xe tk' => ?_, at0⟩
  have d := hb pn xe (tk'.imp fun cls d τ Hx ⟨e1, e2, p⟩ => by
    subst e1 e2
    exact ⟨true, hm, fun _ a _ => ⟨fun oe pn => hsu a oe pn, p⟩, fun z => by cases z⟩)
  refine ⟨fun pins s σ H I p => wpAny_mono (d.run pins s σ H I p) (fun fl s1 z => ?_) fun _ _ z => z⟩
  cases fl with
  | next =>
    obtain ⟨_, _, _, z⟩ := z
    exact z.elim
  | ret u =>
    obtain ⟨_, _, _, _, _, z⟩ := z
    exact z.elim
  | brk =>
    obtain ⟨_, _, _, z⟩ := z
    exact z.elim
  | cont =>
    obtain ⟨_, _, _, z⟩ := z
    exact z.elim
end
end DL

/-! DL40: an exception with a field, caught and kept as a value. -/
namespace DL
open PySem PySem.Spec L2
open PyProof.Rows hiding St
open PySem.W (Datum DatumOrd Tup T3 Holds HoldAll EachIs SomeDatum)
/-- the exception at a, of the class cls, its dict d, caught -/
def ExWo (cls : Value) (d : Option Addr) (a : Addr) : HO := .ext fun h => ∃ (oe : Obj) (vs : Array Value), h.get? a = some oe ∧ Zc cls d oe ∧ oe.data = .fields vs
theorem exWo_ok {P : Program} {w : World} {H : Hp} {h : Heap} {a : Addr} {cls : Value} {dd : Option Addr} {oe : Obj} {vs : Array Value} (e : h.get? a = some oe) (z : Zc cls dd oe) (d : oe.data = .fields vs) : ObjOk P w H h a (ExWo cls dd a) :=
  ⟨⟨oe, vs, e, z, d⟩, ⟨oe, e⟩, fun _ _ ⟨o, v, q, r⟩ k => ⟨o, v, k o q, r⟩⟩
/-- what 'except x as n: m = n' wishes of an exception of the body: slots i of n, j of m -/
def wKeepF (K : PySem.W.Frag) (c : Value) (i j : Nat) (Wout : WX) (D : Ends) : WX := fun cls d σ H =>
  ∃ b, PySem.W.exmOne K cls c = some b ∧ (b = true → ∀ a, H a = none → D.nx (((σ.set i (some (.ref a))).set j (some (.ref a))).set i none) (upd H a (ExWo cls d a))) ∧ (b = false → Wout cls d σ H)
section
variable {X : Cx} {x n m : Str} {c : Value} {i j : Nat} {body : List Stmt} {np p1 p2 p3 pos pos' : Pos} {tb : WX → L2.TS} {Wout : WX}
theorem ps_keepF (hs : X.stack = X.env :: X.outer) (hf : X.env.frame = some X.env.locals) (hx : X.ex = []) (hN : X.N.Nodup) (hi : X.N[i]? = some n) (hj : X.N[j]? = some m) (hln : X.env.kindOf n = some .local) (hlm : Loc X.env.scope m) (hfm : X.fn m = true ∨ X.env.scope.names.lookup m = some .local) (hc : Names X x c) (tk : Takes X Wout)
    (hd1 : (n == ("__debug__" : Str)) = false) (hd2 : (n == ("__classdict__" : Str)) = false) (hsw : swapsWith (.Name n p2) (some (.Name m p1)) p3.line X.env = pure false)
    (hb : ∀ (W : WX) (pn : List (Addr × Obj)) (xe : Value → Shared → Prop), Takes (X.tr pn xe) W → PassesOwn (model X.prog X.w) X.A X.env xe → PSs (X.tr pn xe) body (tb W)) :
    PS X (.Try body [.ExceptHandler (some (.Name x np)) (some n) [.Assign [.Name m p1] (.Name n p2) p3] pos'] [] [] pos) (fun D σ H => tb (wKeepF X.K c i j Wout D) D σ H) := by
  refine ⟨fun pins s σ H D I t0 => ?_⟩
  have okX := I.ok
  have frX : X.A.frames = some (X.env :: X.outer) := by rw [okX.frames, hs]
  have locN : Loc X.env.scope n := .inl hln
  refine wpAny_Try_except ?_
  have hbody := hb (wKeepF X.K c i j Wout D) (X.pn ++ pins) (fun e s₁ => wpAny (model X.prog X.w) X.A (noteFrame e X.env) (fun _ s₂ => wpAny (model X.prog X.w) X.A (setFlight e none)
    (fun _ s₃ => wpAny (model X.prog X.w) X.A (handleBy e X.env [.ExceptHandler (some (.Name x np)) (some n) [.Assign [.Name m p1] (.Name n p2) p3] pos']) (SP X pins D) X.xe s₃) X.xe s₂) X.xe s₁)
  refine wpAny_mono ((hbody (fun u sB xx => ?caught) PassesOwn.looking).run [] s σ H D (I.toTry _) t0) (fun fl s1 hsp => ?ended) (fun e s1 he => he)
  case ended =>
    cases fl with
    | next =>
      obtain ⟨τ, Hn, In, q⟩ := hsp
      exact wpAny_execs_nil ⟨τ, Hn, In.ofTry okX, q⟩
    | ret u =>
      obtain ⟨v, τ, Hn, In, r, q⟩ := hsp
      exact ⟨v, τ, Hn, In.ofTry okX, r, q⟩
    | brk =>
      obtain ⟨τ, Hn, In, q⟩ := hsp
      exact ⟨τ, Hn, In.ofTry okX, q⟩
    | cont =>
      obtain ⟨τ, Hn, In, q⟩ := hsp
      exact ⟨τ, Hn, In.ofTry okX, q⟩
  case caught =>
    obtain ⟨a, B, sI, pinsB, τ, Hx, cls, dd, rfl, IB, ground, slots, sky, fa, os, ag, b, hbm, yes, no⟩ := xx
    have IX : Inv X pins τ Hx sI := IB.ofTry okX
    have skyX : Sky B (X.env :: X.outer) a (Zc cls dd) X.env.locals sB.heap := by rw [← hs]; exact sky
    show wpAny (model X.prog X.w) X.A (noteFrame (.ref a) X.env) _ _ _
    refine Sky.land Zc.steady frX hf skyX fun hA flA upA => ?_
    have IA : Inv X pins τ Hx { sB with heap := hA } := IX.landed ground flA.1 (slots.trans upA) os ag
    obtain ⟨oA, vA, getA, zA, datA⟩ := flA.there
    have noFrame : a ∉ frs (X.env :: X.outer) := fun hm => by
      obtain ⟨_, o', e', hnf⟩ := flA.2.2.1.mem hm
      rw [getA] at e'
      cases e'
      exact hnf _ datA
    have neL : a ≠ X.env.locals := fun z => noFrame (List.mem_filterMap.mpr ⟨X.env, List.mem_cons_self, by rw [hf, z]⟩)
    have neF : a ∉ X.fs := fun hm => by
      obtain ⟨e, he, q⟩ := List.mem_filterMap.mp hm
      exact noFrame (List.mem_filterMap.mpr ⟨e, List.mem_cons_of_mem _ he, q⟩)
    have fresh : sI.heap.get? a = none := by
      cases q : sI.heap.get? a with
      | none => rfl
      | some o =>
        have z := ground a o q (by rw [hs]; exact noFrame)
        rw [flA.2.1] at z
        cases z
    have fresh0 : X.s_0.heap.get? a = none := by
      cases q : X.s_0.heap.get? a with
      | none => rfl
      | some o =>
        obtain ⟨o', z⟩ := IX.base.there a o q (by rw [hx]; exact fun z => nomatch z)
        rw [fresh] at z
        cases z
    have freshP : ∀ p ∈ X.pn ++ pins, p.1 ≠ a := fun p hp e => by
      have z := (IX.pin p hp).1
      rw [e, fresh] at z
      cases z
    have freshC : ∀ y k, X.env.cells.lookup y = some k → k ≠ a := fun y k hk e => by
      obtain ⟨v, o, z, _⟩ := IX.cell y k hk
      rw [e, fresh] at z
      cases z
    have SA := IA.suite getA datA fa neL neF
    refine wpAny_handleBy_cons (codeAny_handlers_test ?_) (by intro q; cases q)
    have lookT : PySem.W.Looks (model X.prog X.w) hA (typeOf (.ref a)) cls := fun A Q E s k q => wpAny_typeOf_ref (k _ _ getA) (by rw [zA.1]; exact q)
    have lookM := PySem.W.exm_one (M := model X.prog X.w) (IA.kIn) lookT hbm
    have named : ∀ {Q : Value → Shared → Prop} {E : Value → Shared → Prop}, Q c { sB with heap := hA } → wpAny (model X.prog X.w) (X.A.mark (some (.ref a))) (eval (.Name x np) X.env) Q E { sB with heap := hA } := fun {Q E} q => by
      obtain ⟨hg, hdbg, hm | ⟨hm, hv, hnn⟩⟩ := hc
      · exact ld_glob (X := X.suite a ((a, oA) :: (X.pn ++ pins))) SA hg hm q hdbg
      · exact ld_blt (X := X.suite a ((a, oA) :: (X.pn ++ pins))) SA hg hm hv q hnn hdbg
    refine named (lookM.here ?_)
    cases b with
    | false =>
      show wpAny _ X.A (handleBy (.ref a) X.env []) _ _ _
      refine wpAny_handleBy_nil ?_
      obtain ⟨k1, k2, k3, oe, vs, T, oT, tsT, he, hz, hd, h1, hr⟩ := id flA
      unfold PySem.passOn
      refine wpAny_bind (wpAny_field he hd h1 ?_)
      rw [if_neg (show ¬ ((Value.ref T == Value.none) = true) from by simp)]
      have up : wpAny (model X.prog X.w) X.A (setFlight (.ref a) X.env.frame) (fun _ s4 => wpAny (model X.prog X.w) X.A (throw (.ref a) : Sem Flow) (SP X pins D) X.xe s4) X.xe { sB with heap := hA } := by
        rw [hf]
        refine HandSPX.setFlight_upZ flA fun hZ heldZ upZ => wpAny_throw (tk _ _ ?_)
        exact ⟨a, B, sI, pins, τ, Hx, cls, dd, rfl, IX, ground, (slots.trans upA).trans upZ, .inr (.inr (by rw [hs]; exact heldZ)), fa, os, ag, no rfl⟩
      first
        | exact wpAny_bind (wpAny_pure (wpAny_bind up))
        | exact wpAny_bind up
    | true =>
      have keep := yes rfl
      refine codeAny_handlers_suite_as ?_
      refine HandSPX.lands_againZ flA fun hS flS upS => ?_
      have IS : Inv X pins τ Hx { sB with heap := hS } := IX.landed ground flS.1 ((slots.trans upA).trans upS) os ag
      obtain ⟨oS, vS, getS, zS, datS⟩ := flS.there
      have SS := IS.suite getS datS fa neL neF
      refine store_ok (X := X.suite a ((a, oS) :: (X.pn ++ pins))) (v := .ref a) SS hN hi locN rfl (fun s5 S5 => ?_) (.inr hln)
      have one : PSs (X.suite a ((a, oS) :: (X.pn ++ pins))) [.Assign [.Name m p1] (.Name n p2) p3] (tAsg (tVar i) (gName j)) := pss_one (ps_set (i := j) hN hj hlm (pe_var hi (.inl hln) hd1 hd2) hsw hfm)
      have hiL : i < τ.length := by
        rw [IX.len]
        exact (List.getElem?_eq_some_iff.mp hi).1
      refine wpAny_mono (one.run [] s5 _ Hx { nx := fun σ6 H6 => σ6 = (τ.set i (some (.ref a))).set j (some (.ref a)) ∧ H6 = Hx, rt := fun _ _ => False, bk := fun _ _ => False, ct := fun _ _ => False } S5 ⟨.ref a, List.getElem?_set_self hiL, rfl, rfl⟩) (fun fl s6 hsp => ?_) (fun _ _ z => False.elim z)
      cases fl with
      | next =>
        obtain ⟨σ6, H6, S6, rfl, rfl⟩ := hsp
        have get6 : s6.heap.get? a = some oS := (S6.pin (a, oS) (List.mem_append_left _ List.mem_cons_self)).1
        have I6 : Inv X pins ((τ.set i (some (.ref a))).set j (some (.ref a))) H6 s6 := S6.unsuite okX
        have J6 := inv_track (o := ExWo cls dd a) I6 fa fresh0 neL freshC freshP (exWo_ok get6 zS datS)
        exact gone_ok J6 hN hi hln fun s7 J7 => ⟨_, _, J7, keep a fa⟩
      | ret u =>
        obtain ⟨_, _, _, _, _, z⟩ := hsp
        exact z.elim
      | brk =>
        obtain ⟨_, _, _, z⟩ := hsp
        exact z.elim
      | cont =>
        obtain ⟨_, _, _, z⟩ := hsp
        exact z.elim
end

/-- the exception at a, caught, of the class at C, n its field f -/
def ExcF (C : Addr) (f : Str) (n : Int) (a : Addr) : Res := ⟨fun G H => ∃ dd, G a = none ∧ G dd = none ∧ H a = some (ExWo (.ref C) (some dd) a) ∧ H dd = some (.xd [(f, .int n)]), fun s g ⟨dd, h1, h2, h3, h4⟩ => ⟨dd, g.nosh h3 (fun _ z => nomatch z) h1, g.nosh h4 (fun _ z => nomatch z) h2, g.h a _ h3, g.h dd _ h4⟩⟩
section
variable {X : Cx} {G0 H0 G1 : Hp} {W : Res} {ρ : Ro} {D : Ends} {pos pos' np p1 p2 p3 : Pos} {rest body : List Stmt} {x n m f : Str} {c : Value} {i j : Nat} {C : Addr} {k0 : Int}
/-- the body raises C with its field, the clause keeps it in m -/
theorem d_tryKF (hs : X.stack = X.env :: X.outer) (hf : X.env.frame = some X.env.locals) (hx : X.ex = []) (hN : X.N.Nodup) (tk : Takes X (fun _ _ _ _ => False)) (hc : Names X x c) (hm : PySem.W.exmOne X.K (.ref C) c = some true) (hij : i ≠ j)
    (hb : ∀ (pn : List (Addr × Obj)) (xe : Value → Shared → Prop), Takes (X.tr pn xe) (wF G0 H0 G1 W ρ (.ref C) f k0) → DSs (X.tr pn xe) body (At G0 H0 G1 W ρ) noEnd)
    (k : ∀ a, H0 a = none → DSs X rest (At G0 H0 G1 (W.and (ExcF C f k0 a)) ((ρ.set j (some (.v (.ref a)))).set i none)) D)
    (hi : X.N[i]? = some n := by rfl) (hj : X.N[j]? = some m := by rfl) (hln : X.env.kindOf n = some .local := by rfl) (hlm : Loc X.env.scope m := by first | exact Or.inl rfl | exact Or.inr rfl) (hfm : X.fn m = true ∨ X.env.scope.names.lookup m = some .local := by first | exact Or.inl rfl | exact Or.inr rfl)
    (hd1 : (n == ("__debug__" : Str)) = false := by decide) (hd2 : (n == ("__classdict__" : Str)) = false := by decide) (hsw : swapsWith (.Name n p2) (some (.Name m p1)) p3.line X.env = pure false := by rfl) :
    DSs X (.Try body [.ExceptHandler (some (.Name x np)) (some n) [.Assign [.Name m p1] (.Name n p2) p3] pos'] [] [] pos :: rest) (At G0 H0 G1 W ρ) D := by
  refine d_cons (M := fun σ H => ∃ a, H0 a = none ∧ At G0 H0 G1 (W.and (ExcF C f k0 a)) ((ρ.set j (some (.v (.ref a)))).set i none) σ H) ?_ (d_ex fun a => d_and (k a))
  refine dst_of (ps_keepF (i := i) (j := j) (c := c) (tb := fun We D σ H => ∃ P, (∀ pn xe, Takes (X.tr pn xe) We → DSs (X.tr pn xe) body P D) ∧ P σ H) hs hf hx hN hi hj hln hlm hfm hc tk hd1 hd2 hsw fun We pn xe tk' _ => ⟨fun pins s σ H D I ⟨P, h, p⟩ => (h pn xe tk').run pins s σ H I p⟩) fun σ H at0 => ⟨At G0 H0 G1 W ρ, fun pn xe tk' => ?_, at0⟩
  have d := hb pn xe (tk'.imp fun cls d τ Hx ⟨e1, dd, e2, G, ⟨g, q, cx⟩, z1, z2, z3⟩ => by
    subst e1 e2
    refine ⟨true, hm, fun _ a ha => ⟨a, g.h.free ha, G, ⟨g.g, fun b o z => ?_, fun b o z => ?_, g.n⟩, q, fun b o z => ?_, ⟨?_, dd, cx.s.free ha, z1, upd_same, ?_⟩, ?_⟩, fun z => by cases z⟩
    · rw [upd_ne (ne_of_none z (g.h.free ha))]
      exact g.h b o z
    · rw [upd_ne (ne_of_none (g.i b o z) ha)]
      exact g.i b o z
    · rw [upd_ne (ne_of_none (cx.s b o z) ha)]
      exact cx.s b o z
    · exact W.mono cx.s (.heap cx.s (same_upd ha)) cx.w
    · rw [upd_ne (ne_of_none z3 ha)]
      exact z3
    · refine ⟨by rw [List.length_set, List.length_set, List.length_set, List.length_set, List.length_set]; exact cx.e.1, fun t s z => ?_⟩
      by_cases h1 : i = t
      · subst h1
        by_cases hl : i < (ρ.set j (some (.v (.ref a)))).length
        · rw [List.getElem?_set_self hl] at z
          cases z
        · rw [List.getElem?_eq_none (by rw [List.length_set]; omega)] at z
          cases z
      · rw [List.getElem?_set_ne h1] at z ⊢
        by_cases h2 : j = t
        · subst h2
          have hl : j < ρ.length := by
            have := (List.getElem?_eq_some_iff.mp z).1
            rwa [List.length_set] at this
          rw [List.getElem?_set_self hl] at z
          cases z
          exact ⟨.ref a, List.getElem?_set_self (by rw [List.length_set, ← cx.e.1]; exact hl), rfl⟩
        · rw [List.getElem?_set_ne h2] at z ⊢
          rw [List.getElem?_set_ne h1]
          exact cx.e.2 t s z)
  refine ⟨fun pins s σ H I p => wpAny_mono (d.run pins s σ H I p) (fun fl s1 z => ?_) fun _ _ z => z⟩
  cases fl with
  | next =>
    obtain ⟨_, _, _, z⟩ := z
    exact z.elim
  | ret u =>
    obtain ⟨_, _, _, _, _, z⟩ := z
    exact z.elim
  | brk =>
    obtain ⟨_, _, _, z⟩ := z
    exact z.elim
  | cont =>
    obtain ⟨_, _, _, z⟩ := z
    exact z.elim
end
end DL

/-! DL41: isinstance and the field of a caught exception that has one. -/
namespace DL
open PySem PySem.Spec L2
open PyProof.Rows hiding St
open PySem.W (Datum DatumOrd Tup T3 Holds HoldAll EachIs SomeDatum)
theorem exWo_inst {P : Program} {w : World} {H : Hp} {h : Heap} {a D dd : Addr} {fs : List (Str × V)} (hok : HOk P w H h) (e1 : H a = some (ExWo (.ref D) (some dd) a)) (e2 : H dd = some (.xd fs)) :
    ∃ (oe od : Obj) (mA : Str → Option Value), PySem.W.InstAt h a oe D (some od) ∧ (∀ f, PySem.W.lookIn f od = some (mA f)) ∧ ∀ f, RelO (fs.lookup f) (mA f) := by
  obtain ⟨⟨oe, vs, hget, hz, hd⟩, _, _⟩ := hok a _ e1
  have hx : ObjOk P w H h dd (.xd fs) := hok dd _ e2
  obtain ⟨mA, hns, hr⟩ := hx
  obtain ⟨od, ho, hl⟩ := lookIn_ns hns
  exact ⟨oe, od, mA, ⟨hget, hz.1, by unfold PySem.W.notCls; rw [hd] <;> rfl, by rw [hz.2]; exact ho⟩, hl, hr⟩
def rIsWF (K : PySem.W.Frag) (D a : Addr) : List V → Hp → VK → Prop := fun xs H Q => ∃ (c : V) (cv : Value) (b : Bool) (dd : Addr) (fs : List (Str × V)), xs = [.ref a, c] ∧ (∀ u, RelV c u → u = cv) ∧ H a = some (ExWo (.ref D) (some dd) a) ∧ H dd = some (.xd fs) ∧ PySem.W.kitOne K (.ref D) cv = some b ∧ Q (.bl b) H
theorem call_isWF {X : Cx} {a D : Addr} (C : ExcC X.K D) : CallR X (.builtin "isinstance") (rIsWF X.K D a) := by
  intro pins s σ H xs us Q I r h
  obtain ⟨c, cv, b, dd, fs, rfl, hcv, ha, hdd, e, q⟩ := h
  obtain ⟨u1, u2, rfl, r1, r2⟩ := vals2 r
  cases r1
  have ec := hcv _ r2
  subst ec
  obtain ⟨oe, od, _, J, _, _⟩ := exWo_inst I.hok ha hdd
  have hcl : (PySem.W.clsIn X.K D).isSome = true := by
    obtain ⟨cd, hc, _⟩ := PySem.W.any_some C.hd
    rw [hc]
    rfl
  exact PySem.W.kia_one (PySem.W.kitx_exc hcl C.hg C.hk C.hs C.ha C.hn C.ht C.hm) I.kIn J e (fun z => nomatch z) fun tk => ⟨.bl b, H, I.kept (t' := tk) fun _ _ z => z, rfl, q⟩
section
variable {X : Cx} {W : Res} {ρ : Ro} {pos fp tp : Pos} {a : Expr} {p D : Addr} {x f : Str} {b : Bool} {c : V} {cv : Value} {n : Int}
/-- isinstance(e, C), e caught, with its field -/
theorem de_isXF (hm : X.mg "isinstance" = none) (hE : ExcC X.K D) (ha : DE X W a ρ (.v (.ref p))) (hW : ∀ G H, Same G H → W.p G H → (ExcF D f n p).p G H) (ht : PE X (.Name x tp) (tC c)) (hc : ∀ u, RelV c u → u = cv) (hk : PySem.W.kitOne X.K (.ref D) cv = some b) (hg : Gl X "isinstance" := by rfl)
    (sa : SA2 X a (.Name x tp) pos := by exact ⟨rfl, rfl, rfl⟩) : DE X W (.Call (.Name "isinstance" fp) [a, .Name x tp] [] pos) ρ (En b) :=
  de_tCB (pe_callB (call_isWF (a := p) hE) hg hm (by decide +kernel) (da_cons ha (da_cons (de_cst (s := .v c) ht fun _ => rfl) da_nil sa.h2) sa.h) (he := sa.h) (hpl := sa.b)) fun G H vs Q hs hw r q => by
    cases r with
    | cons h t =>
      cases t with
      | cons h2 t =>
        cases t
        have e1 : _ = V.ref p := h
        have e2 : _ = c := h2
        subst e1 e2
        obtain ⟨dd, _, _, h3, h4⟩ := hW G H hs hw
        exact ⟨_, cv, b, dd, _, rfl, hc, h3, h4, hk, q _ G H (.refl hs) (.bl b)⟩
/-- e.f, e caught -/
theorem de_xf (T : ExcC X.K D) (hno : PySem.W.findIn X.K (.ref D) f = some none) (ha : DE X W a ρ (.v (.ref p))) (hW : ∀ G H, Same G H → W.p G H → (ExcF D f n p).p G H) (hb : attributeBase a f X.env (eval a X.env) = eval a X.env := by rfl) : DE X W (.Attribute a f pos) ρ (En n) := by
  have key : PE X (.Attribute a f pos) (fun σ H Q => tD W ρ (.v (.ref p)) σ H fun x H1 => x = .ref p ∧ ∃ dd, H1 p = some (ExWo (.ref D) (some dd) p) ∧ H1 dd = some (.xd [(f, .int n)]) ∧ Q (.int n) H1) := by
    refine ⟨fun pins s σ H Q I h => ?_⟩
    refine attr_of hb (thn (ha.run pins s σ H _ I h) fun u s1 ⟨x, H1, I1, rx, ex, dd, h3, h4, q⟩ => ?_)
    subst ex
    obtain rfl : u = Value.ref p := rx
    obtain ⟨oe, od, mA, J, hl, hr⟩ := exWo_inst I1.hok h3 h4
    have l : List.lookup f [(f, V.int n)] = some (.int n) := by simp [List.lookup]
    obtain ⟨u, hu, ru⟩ := RelO.some_of (v := .int n) (o := mA f) (by rw [← l]; exact hr f)
    exact HandSPX.exc_get I1.kIn J T.hg T.hk T.hs (PySem.W.findObj_own T.hd hno rfl (by rw [hl, hu])) (handed_of ru) ⟨.int n, H1, I1.tok _, ru, q⟩
  exact pe_imp key fun σ H Q ⟨G, c, k⟩ => ⟨G, c, fun v G' H' g r => by
    have ev : v = .ref p := r
    subst ev
    obtain ⟨dd, _, _, h3, h4⟩ := hW G' H' g.i (W.mono c.s g c.w)
    exact ⟨rfl, dd, h3, h4, k _ G' H' g (.int n)⟩⟩
end
end DL

/-! DL42: parts of texts, the place of a text in a list. -/
namespace DL
open PySem PySem.Spec L2
open PyProof.Rows hiding St
open PySem.W (Datum DatumOrd Tup T3 Holds HoldAll EachIs SomeDatum)
section
variable {X : Cx} {W : Res} {ρ : Ro} {pos p2 ap : Pos} {a b o : Expr} {x y : Str} {xs : List Str} {j : Nat}
/-- a part of a text -/
theorem de_slS {lo hi : Option Expr} {l u : Option Int} (ha : DE X W a ρ (En x)) (hl : DO X W lo ρ l) (hu : DO X W hi ρ u) (hx : x.length ≤ 1000000) : DE X W (.Subscript a (.Slice lo hi none p2) pos) ρ (En (cutS x l u)) :=
  pe_imp (pe_slice sl_str ha hl hu) fun σ H Q ⟨G, c, k⟩ => ⟨G, c, fun v G1 H1 g1 r1 => by
    cases r1
    exact ⟨G1, c.step g1, fun G2 H2 g2 => ⟨G2, (c.step g1).step g2, fun G3 H3 g3 => ⟨x, rfl, by rw [sizeLine_eq]; omega, k _ G3 H3 ((g1.trans g2).trans g3) (.str _)⟩⟩⟩⟩
theorem rp_strsV {G : Hp} : ∀ {vs : List V} {ns : List Str}, RpAll G vs (ns.map Datum.toD) → vs = ns.map V.str
  | _, [], h => by
    have h' : RpAll G _ [] := h
    cases h'
    rfl
  | _, b :: bs, h => by
    have h' : RpAll G _ (.str b :: bs.map Datum.toD) := h
    cases h' with
    | cons h1 h2 =>
      cases h1
      rw [rp_strsV h2]
      rfl
/-- xs.index(y), a text among texts -/
theorem de_indexS (ho : TS X W o ρ xs) (hb : DE X W b ρ (En y)) (h1 : xs[j]? = some y) (h2 : ∀ m, m < j → xs[m]? ≠ some y) (hst : starEach [b] X.env = (false, eval b X.env) :: starEach [] X.env := by rfl)
    (hm : ∀ {ta te : TE}, PE X o ta → PA X [b] (tCons te tNil) → PE X (.Call (.Attribute o "index" ap) [b] [] pos) (tBM X.K "list" (rIndex X.K) ta (tCons te tNil)) := by exact fun ho ha => pe_bm PySem.F.plainAttrs_list PySem.F.slot_list_index PySem.F.type_list_index mt_index ho ha) :
    DE X W (.Call (.Attribute o "index" ap) [b] [] pos) ρ (En (j : Int)) :=
  pe_imp (hm ho (pa_cons hb pa_nil hst)) fun σ H Q ⟨G, c, k⟩ => ⟨G, c, fun p vs G1 H1 g1 hr r1 => ⟨.inl ⟨rfl, vs, .inl hr⟩, G1, c.step g1, fun v G2 H2 g2 r2 => by
    cases r2
    have ev := rp_strsV r1
    subst ev
    have fl : (xs.map V.str).all flatV = true := List.all_eq_true.mpr fun z hz => by
      obtain ⟨q, _, rfl⟩ := List.mem_map.mp hz
      rfl
    refine ⟨p, xs.map V.str, .str y, j, .str y, rfl, rfl, .inl (rd_mono g2.h hr), rfl, fl, by rw [List.getElem?_map, h1]; rfl, by show (y == y) = true; exact beq_self_eq_true y, fun m z' hm hz => ?_, k _ G2 H2 (g1.trans g2) (.int _)⟩
    rw [List.getElem?_map] at hz
    cases e : xs[m]? with
    | none =>
      rw [e] at hz
      cases hz
    | some w =>
      rw [e] at hz
      cases hz
      have ne : w ≠ y := fun q => h2 m hm (by rw [e, q])
      show (w == y) = false
      exact beq_false_of_ne ne⟩⟩
end
end DL

namespace CH
open PySem PySem.Spec L2 DL
open PyProof.Rows hiding St
open PySem.W (Datum DatumOrd Tup T3)
def m_draw (sc : (List Int)) (k : Int) : Int :=
  let cell : Int := (0 : Int)
  let cell1 : Int := bif (!eqB sc ([] : (List Int))) then (ixD sc (k % (sc.length : Int))) else cell
  let number : Int := (((cell1 % (1000000007 : Int)) + ((7919 : Int) * k)) + (13 : Int))
  (((((number * number) % (1000000007 : Int)) * number) % (998244353 : Int)) / (11 : Int))
def m_pairs_step1 (sc : (List Int)) (way : Int) (ring : Int) (bfound : (List (Int × Int))) (xk : Int) : (List (Int × Int)) :=
  let number : Int := (m_draw sc ((2 : Int) + xk))
  let baseV : Int := (number % xk)
  let tied : (List Int) := (List.filter (fun yj => (memB ((imin yj baseV), (imax yj baseV)) bfound)) (rng 0 xk))
  let beneath : (List Int) := ([baseV] ++ (List.filter (fun yj1 => (eqB (Builtin.bitAnd (number / 2 ^ (((4 : Int) + yj1)).toNat) (1 : Int)) (1 : Int))) tied))
  let row : (List Int) := (ixD [(List.filter (fun yj2 => (eqB (Builtin.bitAnd (number / 2 ^ (((4 : Int) + yj2)).toNat) (1 : Int)) (1 : Int))) (rng 0 xk)), beneath, beneath, (cutL [baseV] none (some ((number / (16 : Int)) % (5 : Int))))] way)
  let row1 : (List Int) := bif ((eqB way (2 : Int)) && (decide (xk < ring))) then ([(xk - (1 : Int))] ++ (rep (b2n (eqB xk (ring - (1 : Int)))) [(0 : Int)])) else row
  let found1 : (List (Int × Int)) := (bfound ++ (List.map (fun yj3 => (yj3, xk)) row1))
  found1
def m_pairs (sc : (List Int)) (many : Int) : (List (Int × Int)) :=
  let way : Int := ((m_draw sc (1 : Int)) % (4 : Int))
  let ring : Int := ((4 : Int) + (((m_draw sc (1 : Int)) / (4 : Int)) % (4 : Int)))
  let found : (List (Int × Int)) := ([] : (List (Int × Int)))
  let found2 : (List (Int × Int)) := List.foldl (m_pairs_step1 sc way ring) found (rng (1 : Int) many)
  found2
def m_drawn_step1 (order : (List Int)) (bfound : (List (Int × Int))) (xone : (Int × Int)) : (List (Int × Int)) :=
  (bfound ++ [((imin (ixD order xone.1) (ixD order xone.2)), (imax (ixD order xone.1) (ixD order xone.2)))])
def m_drawn (sc : (List Int)) (many : Int) : (List (Int × Int)) :=
  let order : (List Int) := (List.map (fun ynumber => ynumber.2) (srt (List.map (fun yk => ((m_draw sc ((20 : Int) + yk)), yk)) (rng 0 many))))
  let found1 : (List (Int × Int)) := List.foldl (m_drawn_step1 order) ([] : (List (Int × Int))) (m_pairs sc many)
  found1
def m_is_among (thing : Int) (least : Int) (most : Int) : Bool :=
  (true && ((!false) && (decide (least ≤ thing) && decide (thing ≤ most))))
def m_Web_many (s0 : WS) : Int :=
  s0.n
def m_Web_need_point (s0 : WS) (point : Int) : Unit :=
  ()
def m_Web_pair (s0 : WS) (one : Int) (other : Int) : (Int × Int) :=
  ((imin one other), (imax one other))
def m_nears_step (b : List (List Int)) (x : Int × Int) : List (List Int) :=
  let b1 := b.set x.1.toNat (ixD b x.1 ++ [x.2])
  b1.set x.2.toNat (ixD b1 x.2 ++ [x.1])
def m_nears0 (many : Int) : List (List Int) := (rng 0 many).map fun i => [i]
def m_nears1 (many : Int) (ps : List (Int × Int)) : List (List Int) := ps.foldl m_nears_step (m_nears0 many)
def m_nears (many : Int) (ps : List (Int × Int)) : List (List Int) := (m_nears1 many ps).map srt
def pr (a b : Int) : Int × Int := (imin a b, imax a b)
def R_Web_init (C : Addr) : List Sl → Res → List Addr → PostT → Prop := fun ss W ds Post => ∃ p many, ss = [.v (.ref p), En many] ∧ W = (InsR C p).and R0 ∧ (1 ≤ many ∧ many ≤ (12 : Int)) ∧ ds = [p] ∧ Post = fun N W' r => ∃ d, N = [d] ∧ W' = WebR C p ⟨d, many, []⟩ ∧ r = .d .none ∧ d ≠ p
def R_Web_tie (C : Addr) : List Sl → Res → List Addr → PostT → Prop := fun ss W ds Post => ∃ p s one other, ss = [.v (.ref p), En one, En other] ∧ W = WebR C p s ∧ (0 ≤ one ∧ one < s.n ∧ 0 ≤ other ∧ other < s.n ∧ one ≠ other ∧ pr one other ∉ s.ps ∧ s.ps.length < 1000000) ∧ ds = [s.d] ∧
  Post = fun N W' r => N = [] ∧ W' = WebR C p ⟨s.d, s.n, s.ps ++ [pr one other]⟩ ∧ r = .d .none
def R_Web_untie (C : Addr) : List Sl → Res → List Addr → PostT → Prop := fun ss W ds Post => ∃ p s one other, ss = [.v (.ref p), En one, En other] ∧ W = WebR C p s ∧ (0 ≤ one ∧ one < s.n ∧ 0 ≤ other ∧ other < s.n ∧ pr one other ∈ s.ps) ∧ ds = [s.d] ∧
  Post = fun N W' r => N = [] ∧ W' = WebR C p ⟨s.d, s.n, without (pr one other) s.ps⟩ ∧ r = .d .none

def m_Web_ties (s0 : WS) : (List (Int × Int)) :=
  (srt s0.ps)
def m_number_of (word : Str) : (Option Int) :=
  bif ((!(decide ((1 : Int) ≤ (word.length : Int)) && decide ((word.length : Int) ≤ (2 : Int)))) || (!(List.all (List.map (fun ysign => (leS (Str.ofString "0") ysign && leS ysign (Str.ofString "9"))) (sgnS word)) fun b => b))) then ((none : (Option Int))) else
  bif ((eqB (ixD (sgnS word) (0 : Int)) (Str.ofString "0")) && (!eqB word (Str.ofString "0"))) then ((none : (Option Int))) else
  (some (intV word))
def m_words_of (line : Str) : (Option (List Str)) :=
  bif ((!true) || (!eqB ((Txt.split line (Str.ofString " ")).length : Int) (2 : Int))) then ((none : (Option (List Str)))) else
  (some (Txt.split line (Str.ofString " ")))
def m_word_none  : (List Str) :=
  let someV : (List (Str × Bool)) := [((Str.ofString "count"), false), ((Str.ofString "line"), false), ((Str.ofString "web"), false)]
  let someV1 : (List (Str × Bool)) := (someV ++ [((Str.ofString "standing"), false), ((Str.ofString "tie"), false)])
  let someV2 : (List (Str × Bool)) := (someV1 ++ [((Str.ofString "point"), false), ((Str.ofString "many"), false)])
  let found : (List Str) := (List.map (fun yword => yword.1) (List.filter (fun yword => yword.2) someV2))
  (found ++ (rep (b2n ((!Option.isNone (none : Option Int)) && ((!false) || (!false)))) [(Str.ofString "else")]))
def m_word_NoPoint  : (List Str) :=
  let someV : (List (Str × Bool)) := [((Str.ofString "count"), false), ((Str.ofString "line"), false), ((Str.ofString "web"), false)]
  let someV1 : (List (Str × Bool)) := (someV ++ [((Str.ofString "standing"), false), ((Str.ofString "tie"), false)])
  let someV2 : (List (Str × Bool)) := (someV1 ++ [((Str.ofString "point"), true), ((Str.ofString "many"), false)])
  let found : (List Str) := (List.map (fun yword => yword.1) (List.filter (fun yword => yword.2) someV2))
  (found ++ (rep (b2n (true && ((!true) || (!true)))) [(Str.ofString "else")]))
def m_word_BadTie  : (List Str) :=
  let someV : (List (Str × Bool)) := [((Str.ofString "count"), false), ((Str.ofString "line"), false), ((Str.ofString "web"), false)]
  let someV1 : (List (Str × Bool)) := (someV ++ [((Str.ofString "standing"), false), ((Str.ofString "tie"), true)])
  let someV2 : (List (Str × Bool)) := (someV1 ++ [((Str.ofString "point"), false), ((Str.ofString "many"), false)])
  let found : (List Str) := (List.map (fun yword => yword.1) (List.filter (fun yword => yword.2) someV2))
  (found ++ (rep (b2n (true && ((!true) || (!true)))) [(Str.ofString "else")]))
def m_word_BadWeb  : (List Str) :=
  let someV : (List (Str × Bool)) := [((Str.ofString "count"), false), ((Str.ofString "line"), false), ((Str.ofString "web"), true)]
  let someV1 : (List (Str × Bool)) := (someV ++ [((Str.ofString "standing"), false), ((Str.ofString "tie"), false)])
  let someV2 : (List (Str × Bool)) := (someV1 ++ [((Str.ofString "point"), false), ((Str.ofString "many"), false)])
  let found : (List Str) := (List.map (fun yword => yword.1) (List.filter (fun yword => yword.2) someV2))
  (found ++ (rep (b2n (true && ((!true) || (!true)))) [(Str.ofString "else")]))
def m_word_BadLine  : (List Str) :=
  let someV : (List (Str × Bool)) := [((Str.ofString "count"), false), ((Str.ofString "line"), true), ((Str.ofString "web"), false)]
  let someV1 : (List (Str × Bool)) := (someV ++ [((Str.ofString "standing"), false), ((Str.ofString "tie"), false)])
  let someV2 : (List (Str × Bool)) := (someV1 ++ [((Str.ofString "point"), false), ((Str.ofString "many"), false)])
  let found : (List Str) := (List.map (fun yword => yword.1) (List.filter (fun yword => yword.2) someV2))
  (found ++ (rep (b2n (true && ((!true) || (!true)))) [(Str.ofString "else")]))
end CH

/-! what the law's drawing helpers give, in plain Lean -/
namespace CH
open PySem DL
open PySem.W (Datum DatumOrd Tup T3)
theorem draw_nn (sc : List Int) (k : Int) : 0 ≤ m_draw sc k := by
  unfold m_draw
  exact Int.ediv_nonneg (Int.emod_nonneg _ (by decide)) (by decide)
theorem draw_lt (sc : List Int) (k : Int) : m_draw sc k < 100000000 := by
  unfold m_draw
  have h := Int.emod_lt_of_pos ((((bif (!eqB sc []) then ixD sc (k % (sc.length : Int)) else 0) % 1000000007 + 7919 * k + 13) * ((bif (!eqB sc []) then ixD sc (k % (sc.length : Int)) else 0) % 1000000007 + 7919 * k + 13) % 1000000007 * ((bif (!eqB sc []) then ixD sc (k % (sc.length : Int)) else 0) % 1000000007 + 7919 * k + 13))) (b := 998244353) (by decide)
  dsimp only
  omega
theorem atI_mem {α : Type} {xs : List α} {i : Int} {x : α} (h : L2.atI xs i = some x) : x ∈ xs := by
  unfold L2.atI at h
  cases q : L2.ixN xs.length i with
  | none =>
    rw [q] at h
    cases h
  | some j =>
    rw [q] at h
    exact List.mem_of_getElem? h
theorem ixD_mem {α : Type} [Inhabited α] {xs : List α} {i : Int} (h : -(xs.length : Int) ≤ i ∧ i < xs.length) : ixD xs i ∈ xs := atI_mem (atI_ixD h)
theorem ixD_nat {α : Type} [Inhabited α] (xs : List α) (i : Nat) : ixD xs (i : Int) = (xs[i]?).getD default := by
  unfold ixD L2.atI L2.ixN
  by_cases h : (i : Int) < (xs.length : Int)
  · rw [if_pos (by omega), if_pos h]
    simp
  · rw [if_pos (by omega), if_neg h]
    rw [List.getElem?_eq_none (by omega)]
    rfl
theorem ixD_get {α : Type} [Inhabited α] {xs : List α} {i : Int} (h : 0 ≤ i ∧ i < xs.length) : xs[i.toNat]? = some (ixD xs i) := by
  obtain ⟨n, rfl⟩ : ∃ n : Nat, i = (n : Int) := ⟨i.toNat, by omega⟩
  rw [ixD_nat]
  have hl : n < xs.length := by omega
  show xs[n]? = _
  simp [List.getElem?_eq_getElem hl]
theorem srt_perm {α : Type} [DecidableEq α] [DatumOrd α] (xs : List α) : (srt xs).Perm xs := List.mergeSort_perm _ _
theorem srt_len {α : Type} [DecidableEq α] [DatumOrd α] (xs : List α) : (srt xs).length = xs.length := (srt_perm xs).length_eq
theorem rng_nodup (a b : Int) : (rng a b).Nodup := by
  unfold rng
  rw [List.nodup_iff_pairwise_ne, List.pairwise_map]
  exact (List.nodup_iff_pairwise_ne.mp List.nodup_range).imp fun h e => h (by omega)
theorem rep_len {α : Type} [DecidableEq α] [Datum α] (i : Int) (x : α) : (rep i [x]).length = i.toNat := by
  unfold rep
  simp
theorem nd_1 {α : Type} (x : α) : [x].Nodup := List.nodup_cons.mpr ⟨List.not_mem_nil, List.nodup_nil⟩
theorem b2n_01 (b : Bool) : b2n b = 0 ∨ b2n b = 1 := by
  cases b
  · exact .inl rfl
  · exact .inr rfl
/-- ties between points below n, the lesser first, none twice -/
def Good (n : Int) (ps : List (Int × Int)) : Prop := (∀ p ∈ ps, 0 ≤ p.1 ∧ p.1 < p.2 ∧ p.2 < n) ∧ ps.Nodup
theorem cutL_sub {α : Type} (xs : List α) (lo hi : Option Int) : (cutL xs lo hi).Sublist xs := (List.take_sublist _ _).trans (List.drop_sublist _ _)
theorem filt_len {k : Int} (p : Int → Bool) (hk : k ≤ 11) : (List.filter p (rng 0 k)).length ≤ 11 := by
  refine Nat.le_trans (List.length_filter_le _ _) ?_
  rw [rng_len]
  omega
theorem bene_len (b : Int) (p : Int → Bool) {tied : List Int} (h : tied.length ≤ 11) : ([b] ++ List.filter p tied).length ≤ 12 := by
  rw [List.length_append]
  have h1 := List.length_filter_le p tied
  have h2 : [b].length = 1 := rfl
  omega
theorem cut_len {α : Type} (xs : List α) (lo hi : Option Int) : (cutL xs lo hi).length ≤ xs.length := (cutL_sub xs lo hi).length_le
theorem row_len {way : Int} {l0 be l3 : List Int} (hw : 0 ≤ way ∧ way < 4) (h0 : l0.length ≤ 12) (h1 : be.length ≤ 12) (h3 : l3.length ≤ 12) : (ixD [l0, be, be, l3] way).length ≤ 12 := by
  have hm : ixD [l0, be, be, l3] way ∈ [l0, be, be, l3] := ixD_mem (by
    simp only [List.length_cons, List.length_nil]
    omega)
  simp only [List.mem_cons, List.not_mem_nil, or_false] at hm
  rcases hm with h | h | h | h <;> rw [h] <;> assumption
theorem row1_len {c d : Bool} {m : Int} {row : List Int} (h : row.length ≤ 12) : (bif c then [m] ++ rep (b2n d) [(0 : Int)] else row).length ≤ 12 := by
  cases c with
  | false => exact h
  | true =>
    cases d <;> simp [rep, b2n]
/-- the row of the k-th point -/
def RowOk (k : Int) (row : List Int) : Prop := (∀ j ∈ row, 0 ≤ j ∧ j < k) ∧ row.Nodup ∧ row.length ≤ 12
theorem row_map {k : Int} {row : List Int} {b : List (Int × Int)} (hk : 1 ≤ k) (hr : RowOk k row) (hb : Good k b) : Good (k + 1) (b ++ row.map fun j => (j, k)) := by
  obtain ⟨h1, h2, _⟩ := hr
  obtain ⟨g1, g2⟩ := hb
  refine ⟨fun p hp => ?_, ?_⟩
  · rcases List.mem_append.mp hp with h | h
    · have := g1 p h
      omega
    · obtain ⟨j, hj, rfl⟩ := List.mem_map.mp h
      have := h1 j hj
      dsimp only
      omega
  · rw [List.nodup_append]
    refine ⟨g2, ?_, fun p hp q hq e => ?_⟩
    · rw [List.nodup_iff_pairwise_ne, List.pairwise_map]
      exact (List.nodup_iff_pairwise_ne.mp h2).imp fun h e => h (Prod.mk.inj e).1
    · obtain ⟨j, hj, rfl⟩ := List.mem_map.mp hq
      subst e
      have := g1 _ hp
      dsimp only at this
      omega
theorem step_row {sc : List Int} {way ring k : Int} {b : List (Int × Int)} (hk : 1 ≤ k ∧ k ≤ 11) (hw : 0 ≤ way ∧ way < 4) (hring : 4 ≤ ring) (hb : Good k b) : ∃ row, RowOk k row ∧ m_pairs_step1 sc way ring b k = b ++ row.map fun j => (j, k) := by
  unfold m_pairs_step1
  extract_lets number baseV tied beneath row row1 found1
  refine ⟨row1, ?_, rfl⟩
  have hbase : 0 ≤ baseV ∧ baseV < k := ⟨Int.emod_nonneg _ (by omega), Int.emod_lt_of_pos _ (by omega)⟩
  have flen : ∀ p : Int → Bool, (List.filter p (rng 0 k)).length ≤ 11 := fun p => by
    refine Nat.le_trans (List.length_filter_le _ _) ?_
    rw [rng_len]
    omega
  have hf : ∀ p : Int → Bool, RowOk k (List.filter p (rng 0 k)) := fun p => by
    refine ⟨fun j hj => mem_rng.mp (List.mem_filter.mp hj).1, (List.filter_sublist).nodup (rng_nodup 0 k), Nat.le_trans (flen p) (by decide)⟩
  have htied : ∀ j ∈ tied, (0 ≤ j ∧ j < k) ∧ j ≠ baseV := fun j hj => by
    obtain ⟨h1, h2⟩ := List.mem_filter.mp hj
    refine ⟨mem_rng.mp h1, fun e => ?_⟩
    have h3 := hb.1 _ (memB_true.mp h2)
    subst e
    unfold imin imax at h3
    dsimp only at h3
    omega
  have hbe : RowOk k beneath := by
    refine ⟨fun j hj => ?_, ?_, ?_⟩
    · rcases List.mem_append.mp hj with h | h
      · rw [List.mem_singleton.mp h]
        exact hbase
      · exact (htied j (List.mem_filter.mp h).1).1
    · show ([baseV] ++ _).Nodup
      rw [List.nodup_append]
      refine ⟨nd_1 _, (List.filter_sublist).nodup ((List.filter_sublist).nodup (rng_nodup 0 k)), fun p hp q hq e => ?_⟩
      rw [List.mem_singleton.mp hp] at e
      exact (htied q (List.mem_filter.mp hq).1).2 e.symm
    · show ([baseV] ++ _).length ≤ 12
      rw [List.length_append]
      have h1 := List.length_filter_le (fun yj1 => eqB (Builtin.bitAnd (number / 2 ^ ((4 : Int) + yj1).toNat) (1 : Int)) (1 : Int)) tied
      have h2 : tied.length ≤ 11 := flen _
      have h3 : [baseV].length = 1 := rfl
      omega
  have hcut : RowOk k (cutL [baseV] none (some (number / 16 % 5))) := by
    have hs := cutL_sub [baseV] none (some (number / 16 % 5))
    refine ⟨fun j hj => ?_, hs.nodup (nd_1 _), Nat.le_trans hs.length_le (by show 1 ≤ 12; decide)⟩
    rw [List.mem_singleton.mp (hs.subset hj)]
    exact hbase
  have hrow : RowOk k row := by
    have hm : row ∈ [_, beneath, beneath, _] := ixD_mem (by
      simp only [List.length_cons, List.length_nil]
      omega)
    simp only [List.mem_cons, List.not_mem_nil, or_false] at hm
    rcases hm with h | h | h | h
    · rw [h]
      exact hf _
    · rw [h]
      exact hbe
    · rw [h]
      exact hbe
    · rw [h]
      exact hcut
  show RowOk k (bif _ then _ else row)
  cases hc : (eqB way 2 && decide (k < ring)) with
  | false => exact hrow
  | true =>
    rw [cond_true]
    rcases b2n_01 (eqB k (ring - 1)) with h | h
    · rw [h]
      refine ⟨fun j hj => ?_, ?_, by simp [rep]⟩
      · have h2 : j ∈ [k - 1] := by simpa [rep] using hj
        rw [List.mem_singleton.mp h2]
        omega
      · simp [rep]
    · have h3 : k = ring - 1 := by
        apply eqB_true.mp
        cases q : eqB k (ring - 1) with
        | true => rfl
        | false =>
          rw [q] at h
          cases h
      rw [h]
      refine ⟨fun j hj => ?_, ?_, by simp [rep]⟩
      · have h2 : j ∈ [k - 1, 0] := by simpa [rep] using hj
        simp only [List.mem_cons, List.not_mem_nil, or_false] at h2
        omega
      · have : ([k - 1] ++ rep 1 [(0 : Int)]) = [k - 1, 0] := by simp [rep]
        rw [this]
        simp
        omega
theorem rng_snoc {a b : Int} (h : a ≤ b) : rng a (b + 1) = rng a b ++ [b] := by
  unfold rng
  have e : (b + 1 - a).toNat = (b - a).toNat + 1 := by omega
  rw [e, List.range_succ, List.map_append]
  congr 1
  simp
  omega
theorem way_ok (x : Int) : 0 ≤ x % 4 ∧ x % 4 < 4 := by omega
theorem pairs_fold {sc : List Int} {way ring : Int} (hw : 0 ≤ way ∧ way < 4) (hring : 4 ≤ ring) : ∀ n : Nat, n ≤ 11 → Good ((n : Int) + 1) (List.foldl (m_pairs_step1 sc way ring) [] (rng 1 ((n : Int) + 1))) ∧ (List.foldl (m_pairs_step1 sc way ring) [] (rng 1 ((n : Int) + 1))).length ≤ 12 * n
  | 0, _ => by
    have e : rng 1 (((0 : Nat) : Int) + 1) = [] := rfl
    rw [e]
    exact ⟨⟨fun p hp => (by cases hp), List.nodup_nil⟩, Nat.le_refl _⟩
  | n + 1, h => by
    obtain ⟨g, l⟩ := pairs_fold hw hring n (by omega)
    have e : (((n + 1 : Nat) : Int) + 1) = ((n : Int) + 1) + 1 := by omega
    rw [e, rng_snoc (by omega), List.foldl_append, List.foldl_cons, List.foldl_nil]
    obtain ⟨row, hr, he⟩ := step_row (sc := sc) (k := (n : Int) + 1) (by omega) hw hring g
    rw [he]
    refine ⟨row_map (by omega) hr g, ?_⟩
    rw [List.length_append, List.length_map]
    have := hr.2.2
    omega
theorem pairs_good {sc : List Int} {many : Int} (h : 1 ≤ many ∧ many ≤ 12) : Good many (m_pairs sc many) ∧ (m_pairs sc many).length ≤ 132 := by
  have hf := pairs_fold (sc := sc) (way := m_draw sc 1 % 4) (ring := 4 + m_draw sc 1 / 4 % 4) (by omega) (by omega) (many - 1).toNat (by omega)
  have e : (((many - 1).toNat : Nat) : Int) + 1 = many := by omega
  rw [e] at hf
  exact ⟨hf.1, by
    have := hf.2
    show (List.foldl (m_pairs_step1 sc (m_draw sc 1 % 4) (4 + m_draw sc 1 / 4 % 4)) [] (rng 1 many)).length ≤ 132
    omega⟩
theorem step_len {sc : List Int} {way ring k : Int} {b : List (Int × Int)} (hk : k ≤ 11) (hw : 0 ≤ way ∧ way < 4) : (m_pairs_step1 sc way ring b k).length ≤ b.length + 12 := by
  unfold m_pairs_step1
  dsimp only
  rw [List.length_append, List.length_map]
  refine Nat.add_le_add_left ?_ _
  refine row1_len (row_len hw (Nat.le_trans (filt_len _ hk) (by decide)) (bene_len _ _ (filt_len _ hk)) (Nat.le_trans (cut_len _ _ _) (by show 1 ≤ 12; decide)))
/-- the points in another order -/
def orderOf (sc : List Int) (many : Int) : List Int := List.map (fun (q : Int × Int) => q.2) (srt (List.map (fun k => (m_draw sc (20 + k), k)) (rng 0 many)))
theorem order_perm (sc : List Int) (many : Int) : (orderOf sc many).Perm (rng 0 many) := by
  unfold orderOf
  refine ((srt_perm _).map _).trans ?_
  rw [List.map_map]
  have e : (fun (q : Int × Int) => q.2) ∘ (fun k => (m_draw sc (20 + k), k)) = id := rfl
  rw [e, List.map_id]
theorem order_len (sc : List Int) (many : Int) : (orderOf sc many).length = many.toNat := by
  rw [(order_perm sc many).length_eq, rng_len]
  omega
theorem order_at {sc : List Int} {many i : Int} (h : 0 ≤ i ∧ i < many) : 0 ≤ ixD (orderOf sc many) i ∧ ixD (orderOf sc many) i < many := by
  have hm : ixD (orderOf sc many) i ∈ orderOf sc many := ixD_mem (by
    rw [order_len]
    omega)
  exact mem_rng.mp ((order_perm sc many).mem_iff.mp hm)
theorem order_inj {sc : List Int} {many i j : Int} (hi : 0 ≤ i ∧ i < many) (hj : 0 ≤ j ∧ j < many) (e : ixD (orderOf sc many) i = ixD (orderOf sc many) j) : i = j := by
  have hl := order_len sc many
  have h1 := ixD_get (xs := orderOf sc many) (i := i) (by omega)
  have h2 := ixD_get (xs := orderOf sc many) (i := j) (by omega)
  rw [← e] at h2
  have nd : (orderOf sc many).Nodup := (order_perm sc many).nodup_iff.mpr (rng_nodup 0 many)
  have l1 : i.toNat < (orderOf sc many).length := by omega
  have l2 : j.toNat < (orderOf sc many).length := by omega
  rw [List.getElem?_eq_getElem l1] at h1
  rw [List.getElem?_eq_getElem l2] at h2
  have h3 : (orderOf sc many)[i.toNat] = (orderOf sc many)[j.toNat] := (Option.some.inj h1).trans (Option.some.inj h2).symm
  have := (List.getElem_inj nd).mp h3
  omega
theorem foldl_app_map {α β : Type} (f : α → β) : ∀ (xs : List α) (b : List β), List.foldl (fun b x => b ++ [f x]) b xs = b ++ xs.map f
  | [], b => by simp
  | x :: xs, b => by
    rw [List.foldl_cons, foldl_app_map f xs, List.map_cons, List.append_assoc]
    rfl
def turnP (o : List Int) (p : Int × Int) : Int × Int := (imin (ixD o p.1) (ixD o p.2), imax (ixD o p.1) (ixD o p.2))
theorem drawn_eq (sc : List Int) (many : Int) : m_drawn sc many = (m_pairs sc many).map (turnP (orderOf sc many)) := by
  have h := foldl_app_map (turnP (orderOf sc many)) (m_pairs sc many) []
  rw [List.nil_append] at h
  exact h
theorem turnP_ok {sc : List Int} {many : Int} {p : Int × Int} (h : 0 ≤ p.1 ∧ p.1 < p.2 ∧ p.2 < many) : 0 ≤ (turnP (orderOf sc many) p).1 ∧ (turnP (orderOf sc many) p).1 < (turnP (orderOf sc many) p).2 ∧ (turnP (orderOf sc many) p).2 < many := by
  have h1 := order_at (sc := sc) (many := many) (i := p.1) (by omega)
  have h2 := order_at (sc := sc) (many := many) (i := p.2) (by omega)
  have h3 : ixD (orderOf sc many) p.1 ≠ ixD (orderOf sc many) p.2 := fun e => by
    have := order_inj (by omega) (by omega) e
    omega
  unfold turnP imin imax
  dsimp only
  omega
theorem drawn_good {sc : List Int} {many : Int} (h : 1 ≤ many ∧ many ≤ 12) : Good many (m_drawn sc many) ∧ (m_drawn sc many).length ≤ 132 := by
  obtain ⟨⟨g1, g2⟩, l⟩ := pairs_good (sc := sc) h
  rw [drawn_eq]
  refine ⟨⟨fun q hq => ?_, ?_⟩, by rw [List.length_map]; exact l⟩
  · obtain ⟨p, hp, rfl⟩ := List.mem_map.mp hq
    exact turnP_ok (g1 p hp)
  · rw [List.nodup_iff_pairwise_ne, List.pairwise_map]
    refine (List.nodup_iff_pairwise_ne.mp g2).imp_of_mem fun {p q} hp hq hne e => hne ?_
    have a := g1 p hp
    have b := g1 q hq
    unfold turnP imin imax at e
    obtain ⟨e1, e2⟩ := Prod.mk.inj e
    have c1 : ixD (orderOf sc many) p.1 ≠ ixD (orderOf sc many) p.2 := fun e => by
      have := order_inj (by omega) (by omega) e
      omega
    have c2 : ixD (orderOf sc many) q.1 ≠ ixD (orderOf sc many) q.2 := fun e => by
      have := order_inj (by omega) (by omega) e
      omega
    have key : (ixD (orderOf sc many) p.1 = ixD (orderOf sc many) q.1 ∧ ixD (orderOf sc many) p.2 = ixD (orderOf sc many) q.2) ∨ (ixD (orderOf sc many) p.1 = ixD (orderOf sc many) q.2 ∧ ixD (orderOf sc many) p.2 = ixD (orderOf sc many) q.1) := by omega
    rcases key with ⟨k1, k2⟩ | ⟨k1, k2⟩
    · exact Prod.ext (order_inj (by omega) (by omega) k1) (order_inj (by omega) (by omega) k2)
    · have h1 := order_inj (sc := sc) (many := many) (by omega) (by omega) k1
      have h2 := order_inj (sc := sc) (many := many) (by omega) (by omega) k2
      omega
theorem enumF_snd {α : Type} : ∀ (i : Nat) (xs : List α), (enumF i xs).map (·.2) = xs
  | _, [] => rfl
  | i, x :: xs => by
    have ih := enumF_snd (i + 1) xs
    exact congrArg (x :: ·) ih
theorem pr_lt {x : Int × Int} (h : x.1 < x.2) : pr x.1 x.2 = x := by
  unfold pr imin imax
  rcases x with ⟨a, b⟩
  dsimp only at h ⊢
  congr 1 <;> split <;> omega
theorem pr_gt {x : Int × Int} (h : x.1 < x.2) : pr x.2 x.1 = x := by
  unfold pr imin imax
  rcases x with ⟨a, b⟩
  dsimp only at h ⊢
  congr 1 <;> split <;> omega
theorem atI_nat {α : Type} {xs : List α} {i : Int} (h0 : 0 ≤ i) (h : i < xs.length) : L2.atI xs i = xs[i.toNat]? := by
  unfold L2.atI L2.ixN
  rw [if_pos h0, if_pos (by omega)]
  rfl
end CH

/-! notes: numbers and lines, plain -/
namespace CH
open PySem PySem.Spec L2 DL
open PyProof.Rows hiding St
open PySem.W (Datum DatumOrd Tup T3)
theorem sgnS_len (x : Str) : (sgnS x).length = x.length := by
  unfold sgnS
  rw [List.length_map, Array.length_toList]
  rfl
abbrev badNum (word : Str) : Bool := ((!(decide ((1 : Int) ≤ (word.length : Int)) && decide ((word.length : Int) ≤ (2 : Int)))) || (!(List.all (List.map (fun ysign => (leS (Str.ofString "0") ysign && leS ysign (Str.ofString "9"))) (sgnS word)) fun b => b)))
theorem num_good {word : Str} (h : badNum word = false) : (1 ≤ word.length ∧ word.length ≤ 2) ∧ ∀ s ∈ sgnS word, (leS (Str.ofString "0") s && leS s (Str.ofString "9")) = true := by
  unfold badNum at h
  rw [Bool.or_eq_false_iff, Bool.not_eq_false', Bool.not_eq_false', Bool.and_eq_true, decide_eq_true_eq, decide_eq_true_eq, List.all_eq_true] at h
  exact ⟨by omega, fun s hs => h.2 _ (List.mem_map.mpr ⟨s, hs, rfl⟩)⟩
theorem num_ix {word : Str} (h : badNum word = false) : -((sgnS word).length : Int) ≤ 0 ∧ 0 < ((sgnS word).length : Int) := by
  have := (num_good h).1
  rw [sgnS_len]
  omega
theorem num_short {word : Str} (h : badNum word = false) : word.length ≤ 640 := by
  have := (num_good h).1
  omega
theorem lt1 (a b : Nat) : [a] < [b] ↔ a < b := by
  rw [List.cons_lt_cons_iff]
  constructor
  · rintro (h | h)
    · exact h
    · exact absurd h.2 (List.not_lt_nil _)
  · exact fun h => .inl h
theorem digit {c : Nat} (h : (leS (Str.ofString "0") ⟨#[c]⟩ && leS ⟨#[c]⟩ (Str.ofString "9")) = true) : ∃ d, d < 10 ∧ c = 48 + d := by
  unfold leS at h
  have e0 : (Str.ofString "0").cps.toList = [48] := by decide +kernel
  have e9 : (Str.ofString "9").cps.toList = [57] := by decide +kernel
  rw [e0, e9, Bool.and_eq_true, Bool.not_eq_true', Bool.not_eq_true', decide_eq_false_iff_not, decide_eq_false_iff_not] at h
  have h1 : ¬ [c] < [48] := h.1
  have h2 : ¬ [57] < [c] := h.2
  rw [lt1] at h1 h2
  exact ⟨c - 48, by omega, by omega⟩
theorem one_ok : ((List.range 10).all fun c => (PySem.intText? ⟨#[48 + c]⟩).isSome) = true := by decide +kernel
theorem two_ok : ((List.range 10).all fun c => (List.range 10).all fun d => (PySem.intText? ⟨#[48 + c, 48 + d]⟩).isSome) = true := by decide +kernel
theorem num_ok {word : Str} (h : badNum word = false) : PySem.intText? word ≠ none := by
  obtain ⟨⟨h1, h2⟩, hd⟩ := num_good h
  obtain ⟨⟨l⟩⟩ := word
  have hs : ∀ c ∈ l, ∃ d, d < 10 ∧ c = 48 + d := fun c hc => digit (hd ⟨#[c]⟩ (List.mem_map.mpr ⟨c, hc, rfl⟩))
  have hl1 : 1 ≤ l.length := h1
  have hl2 : l.length ≤ 2 := h2
  match l, hs, hl1, hl2 with
  | [a], hs, _, _ =>
    obtain ⟨d, hd2, rfl⟩ := hs a List.mem_cons_self
    have q := List.all_eq_true.mp one_ok d (List.mem_range.mpr hd2)
    intro z
    rw [z] at q
    cases q
  | [a, b], hs, _, _ =>
    obtain ⟨d, hd2, rfl⟩ := hs a List.mem_cons_self
    obtain ⟨f, hf, rfl⟩ := hs b (List.mem_cons_of_mem _ List.mem_cons_self)
    have q := List.all_eq_true.mp (List.all_eq_true.mp two_ok d (List.mem_range.mpr hd2)) f (List.mem_range.mpr hf)
    intro z
    rw [z] at q
    cases q
/-! the lines that are written -/
def lineP (n : Int) : Str := Str.ofString "points " ++ strI n
def lineT (q : Int × Int) : Str := strI q.1 ++ Str.ofString " " ++ strI q.2
theorem num_all : ((List.range 13).all fun i => m_number_of (strI (i : Int)) == some (i : Int)) = true := by decide +kernel
theorem num_of {i : Int} (h : 0 ≤ i ∧ i ≤ 12) : m_number_of (strI i) = some i := by
  obtain ⟨k, rfl⟩ : ∃ k : Nat, i = k := ⟨i.toNat, by omega⟩
  exact eq_of_beq (List.all_eq_true.mp num_all k (List.mem_range.mpr (by omega)))
theorem wp_all : ((List.range 13).all fun i => m_words_of (lineP (i : Int)) == some [Str.ofString "points", strI (i : Int)]) = true := by decide +kernel
theorem words_p {i : Int} (h : 0 ≤ i ∧ i ≤ 12) : m_words_of (lineP i) = some [Str.ofString "points", strI i] := by
  obtain ⟨k, rfl⟩ : ∃ k : Nat, i = k := ⟨i.toNat, by omega⟩
  exact eq_of_beq (List.all_eq_true.mp wp_all k (List.mem_range.mpr (by omega)))
theorem wt_all : ((List.range 13).all fun i => (List.range 13).all fun j => m_words_of (lineT ((i : Int), (j : Int))) == some [strI (i : Int), strI (j : Int)]) = true := by decide +kernel
theorem words_t {q : Int × Int} (h1 : 0 ≤ q.1 ∧ q.1 ≤ 12) (h2 : 0 ≤ q.2 ∧ q.2 ≤ 12) : m_words_of (lineT q) = some [strI q.1, strI q.2] := by
  obtain ⟨a, b⟩ := q
  dsimp only at h1 h2
  obtain ⟨i, rfl⟩ : ∃ k : Nat, a = k := ⟨a.toNat, by omega⟩
  obtain ⟨j, rfl⟩ : ∃ k : Nat, b = k := ⟨b.toNat, by omega⟩
  exact eq_of_beq (List.all_eq_true.mp (List.all_eq_true.mp wt_all i (List.mem_range.mpr (by omega))) j (List.mem_range.mpr (by omega)))
theorem len_all : ((List.range 13).all fun i => decide ((strI (i : Int)).length ≤ 2)) = true := by decide +kernel
theorem strI_len {i : Int} (h : 0 ≤ i ∧ i ≤ 12) : (strI i).length ≤ 2 := by
  obtain ⟨k, rfl⟩ : ∃ k : Nat, i = k := ⟨i.toNat, by omega⟩
  exact of_decide_eq_true (List.all_eq_true.mp len_all k (List.mem_range.mpr (by omega)))
theorem app_len (x y : Str) : (x ++ y).length = x.length + y.length := by
  show (x.cps ++ y.cps).size = _
  rw [Array.size_append]
  rfl
theorem lineP_len {n : Int} (h : 0 ≤ n ∧ n ≤ 12) : (lineP n).length ≤ 9 := by
  unfold lineP
  rw [app_len]
  have e : (Str.ofString "points ").length = 7 := by decide +kernel
  have := strI_len h
  omega
theorem lineT_len {q : Int × Int} (h1 : 0 ≤ q.1 ∧ q.1 ≤ 12) (h2 : 0 ≤ q.2 ∧ q.2 ≤ 12) : (lineT q).length ≤ 5 := by
  unfold lineT
  rw [app_len, app_len]
  have e : (Str.ofString " ").length = 1 := by decide +kernel
  have := strI_len h1
  have := strI_len h2
  omega
theorem log_ok {i : Int} (h : 0 ≤ i ∧ i ≤ 12) : i.natAbs.log2 < 1920 := by
  have h1 : i.natAbs < 16 := by omega
  by_cases z : i.natAbs = 0
  · rw [z]
    decide
  · have := (Nat.log2_lt z (k := 4)).mpr h1
    omega
theorem enum_len {α : Type} : ∀ (i : Nat) (xs : List α), (enumF i xs).length = xs.length
  | _, [] => rfl
  | i, x :: xs => by
    show (enumF (i + 1) xs).length + 1 = xs.length + 1
    rw [enum_len (i + 1) xs]
theorem enum_get {α : Type} : ∀ (i : Nat) (xs : List α) (j : Nat), (enumF i xs)[j]? = (xs[j]?).map fun x => (((i + j : Nat) : Int), x)
  | _, [], j => by
    show ([] : List (Int × α))[j]? = (([] : List α)[j]?).map _
    rw [List.getElem?_nil, List.getElem?_nil]
    rfl
  | i, x :: xs, 0 => rfl
  | i, x :: xs, j + 1 => by
    show (enumF (i + 1) xs)[j]? = (xs[j]?).map _
    rw [enum_get (i + 1) xs j]
    congr 1
    funext y
    congr 2
    omega
theorem enum_at {α : Type} {xs : List α} {pre post : List (Int × α)} {x : Int × α} (h : enumF 0 xs = pre ++ x :: post) : x.1 = (pre.length : Int) ∧ xs[pre.length]? = some x.2 := by
  have q := enum_get 0 xs pre.length
  rw [h, List.getElem?_append_right (Nat.le_refl _), Nat.sub_self] at q
  have q2 : some x = (xs[pre.length]?).map fun y => (((0 + pre.length : Nat) : Int), y) := q
  cases e : xs[pre.length]? with
  | none =>
    rw [e] at q2
    cases q2
  | some y =>
    rw [e] at q2
    have q3 := Option.some.inj q2
    rw [q3]
    exact ⟨by dsimp only; omega, rfl⟩
theorem ixD_zero {α : Type} [Inhabited α] {a : α} {l : List α} : ixD (a :: l) 0 = a := by
  have h := ixD_get (xs := a :: l) (i := 0) (by rw [List.length_cons]; omega)
  exact (Option.some.inj h).symm
end CH

/-! k12: lines of mixed kinds; what is read -/
namespace CH
open PySem PySem.Spec L2 DL
open PyProof.Rows hiding St
open PySem.W (Datum DatumOrd Tup T3)
/-- a line: a text, None, a number, a list of texts -/
inductive Ln where
  | s (x : Str)
  | n
  | i (k : Int)
  | l (xs : List Str)
deriving DecidableEq
def Ln.d : Ln → PyData
  | .s x => .str x
  | .n => .none
  | .i k => .int k
  | .l xs => Datum.toD xs
instance : Inhabited Ln := ⟨.n⟩
instance : Datum Ln where
  toD := Ln.d
  plain a := by
    cases a with
    | s x => exact Datum.plain x
    | n => rfl
    | i k => exact Datum.plain k
    | l xs => exact Datum.plain xs
  eqv a b := by
    cases a with
    | s x => cases b with
      | s y => exact (Datum.eqv x y).trans (decide_eq_decide.mpr (by simp))
      | n => show PyData.eqv (.str x) .none = _; simp [PyData.eqv]
      | i k => show PyData.eqv (.str x) (.int k) = _; simp [PyData.eqv]
      | l xs => show PyData.eqv (.str x) (.list _) = _; simp [PyData.eqv]
    | n => cases b with
      | s y => show PyData.eqv .none (.str y) = _; simp [PyData.eqv]
      | n => show PyData.eqv .none .none = _; simp [PyData.eqv]
      | i k => show PyData.eqv .none (.int k) = _; simp [PyData.eqv]
      | l xs => show PyData.eqv .none (.list _) = _; simp [PyData.eqv]
    | i k => cases b with
      | s y => show PyData.eqv (.int k) (.str y) = _; simp [PyData.eqv]
      | n => show PyData.eqv (.int k) .none = _; simp [PyData.eqv]
      | i m => exact (Datum.eqv k m).trans (decide_eq_decide.mpr (by simp))
      | l xs => show PyData.eqv (.int k) (.list _) = _; simp [PyData.eqv]
    | l xs => cases b with
      | s y => show PyData.eqv (.list _) (.str y) = _; simp [PyData.eqv]
      | n => show PyData.eqv (.list _) .none = _; simp [PyData.eqv]
      | i m => show PyData.eqv (.list _) (.int m) = _; simp [PyData.eqv]
      | l ys => exact (Datum.eqv xs ys).trans (decide_eq_decide.mpr (by simp))
  depth := Datum.depth (List Str) + Datum.depth Int + Datum.depth Str
  depth_le a := by
    cases a with
    | s x => have := Datum.depth_le x; show (Datum.toD x).depth ≤ _; omega
    | n => exact Nat.zero_le _
    | i k => have := Datum.depth_le k; show (Datum.toD k).depth ≤ _; omega
    | l xs => have := Datum.depth_le xs; show (Datum.toD xs).depth ≤ _; omega
/-- what is told: a place, or a web -/
inductive Tr where
  | at (k : Int)
  | web (n : Int) (ps : List (Int × Int))
deriving DecidableEq
def Tr.d : Tr → PyData
  | .at k => .int k
  | .web n ps => Datum.toD (n, ps)
instance : Inhabited Tr := ⟨.at 0⟩
instance : Datum Tr where
  toD := Tr.d
  plain a := by
    cases a with
    | «at» x => exact Datum.plain x
    | web n ps => exact Datum.plain (n, ps)
  eqv a b := by
    cases a with
    | «at» k => cases b with
      | «at» m => exact (Datum.eqv k m).trans (decide_eq_decide.mpr (by simp))
      | web n ps => show PyData.eqv (.int k) (.tuple _) = _; simp [PyData.eqv]
    | web n ps => cases b with
      | «at» m => show PyData.eqv (.tuple _) (.int m) = _; simp [PyData.eqv]
      | web m qs => exact (Datum.eqv (n, ps) (m, qs)).trans (decide_eq_decide.mpr (by simp))
  depth := Datum.depth (Int × List (Int × Int)) + Datum.depth Int
  depth_le a := by
    cases a with
    | «at» k => have := Datum.depth_le k; show (Datum.toD k).depth ≤ _; omega
    | web n ps => have := Datum.depth_le (n, ps); show (Datum.toD (n, ps)).depth ≤ _; omega
/-! the program's reading -/
def wordsL : Ln → Option (List Str)
  | .s x => m_words_of x
  | _ => none
def okLn : Ln → Prop
  | .s x => x.length ≤ 1000000
  | _ => True
/-- the number of points that a first line tells -/
def begL (d : Ln) : Option Int := match wordsL d with
  | none => none
  | some ws => if ixD ws 0 = Str.ofString "points" then (match m_number_of (ixD ws 1) with
    | none => none
    | some n => if 1 ≤ n ∧ n ≤ 12 then some n else none) else none
/-- the tie that a line puts in -/
def putL (n : Int) (ps : List (Int × Int)) (d : Ln) : Option (Int × Int) := match wordsL d with
  | none => none
  | some ws => match m_number_of (ixD ws 0), m_number_of (ixD ws 1) with
    | some a, some b => if (0 ≤ a ∧ a < n) ∧ (0 ≤ b ∧ b < n) ∧ a ≠ b ∧ pr a b ∉ ps then some (pr a b) else none
    | _, _ => none
/-- the lines behind the first: the ties, or the place of a bad one -/
def goL (n : Int) : Int → List (Int × Int) → List Ln → Int ⊕ List (Int × Int)
  | _, ps, [] => .inr ps
  | k, ps, d :: ds => match putL n ps d with
    | none => .inl k
    | some q => goL n (k + 1) (ps ++ [q]) ds
def readT : List Ln → Tr
  | [] => .at 0
  | d :: ds => match begL d with
    | none => .at 0
    | some n => match goL n 1 [] ds with
      | .inl k => .at k
      | .inr ps => .web n (srt ps)
/-! words -/
theorem part_len {x y w : Str} (h : w ∈ Txt.split x y) : w.length ≤ x.length := by
  unfold Txt.split at h
  split at h
  · rw [List.mem_singleton.mp h]
    exact Nat.le_refl _
  · split at h
    · rw [List.mem_singleton.mp h]
      exact Nat.le_refl _
    · unfold Builtin.Str.partsBetween at h
      obtain ⟨⟨i, j⟩, _, rfl⟩ := List.mem_map.mp h
      show (Builtin.Str.strSub x i j).cps.size ≤ x.cps.size
      unfold Builtin.Str.strSub
      simp only [Array.size_extract]
      omega
theorem words_two {x : Str} {ws : List Str} (h : m_words_of x = some ws) : ∃ a b, ws = [a, b] ∧ a.length ≤ x.length ∧ b.length ≤ x.length := by
  unfold m_words_of at h
  cases c : ((!true) || (!eqB ((Txt.split x (Str.ofString " ")).length : Int) (2 : Int))) with
  | true =>
    rw [c] at h
    cases h
  | false =>
    rw [c] at h
    have e : Txt.split x (Str.ofString " ") = ws := Option.some.inj h
    have l : ((Txt.split x (Str.ofString " ")).length : Int) = 2 := by
      simp only [Bool.not_true, Bool.false_or, Bool.not_eq_false', eqB_true] at c
      exact c
    rw [e] at l
    have m : ∀ w ∈ ws, w.length ≤ x.length := fun w hw => part_len (y := Str.ofString " ") (by rw [e]; exact hw)
    match ws, l, m with
    | [a, b], _, m => exact ⟨a, b, rfl, m a List.mem_cons_self, m b (List.mem_cons_of_mem _ List.mem_cons_self)⟩
    | [], l, _ => simp at l
    | [_], l, _ => simp at l
    | _ :: _ :: _ :: _, l, _ => simp at l; omega
theorem wordsL_two {d : Ln} {ws : List Str} (hd : okLn d) (h : wordsL d = some ws) : ∃ a b, ws = [a, b] ∧ a.length ≤ 1000000 ∧ b.length ≤ 1000000 := by
  cases d with
  | s x =>
    obtain ⟨a, b, e, h1, h2⟩ := words_two h
    have hx : x.length ≤ 1000000 := hd
    exact ⟨a, b, e, by omega, by omega⟩
  | n => cases h
  | i k => cases h
  | l xs => cases h
theorem begL_some {d : Ln} {n : Int} (hd : okLn d) (h : begL d = some n) : ∃ b, wordsL d = some [Str.ofString "points", b] ∧ m_number_of b = some n ∧ (1 ≤ n ∧ n ≤ 12) ∧ b.length ≤ 1000000 := by
  unfold begL at h
  cases hw : wordsL d with
  | none =>
    rw [hw] at h
    cases h
  | some ws =>
    obtain ⟨a, b, rfl, h1, h2⟩ := wordsL_two hd hw
    rw [hw] at h
    have i0 : ixD [a, b] 0 = a := rfl
    have i1 : ixD [a, b] 1 = b := rfl
    dsimp only at h
    rw [i0, i1] at h
    by_cases ea : a = Str.ofString "points"
    · rw [if_pos ea] at h
      cases hn : m_number_of b with
      | none =>
        rw [hn] at h
        cases h
      | some k =>
        rw [hn] at h
        dsimp only at h
        by_cases hk : 1 ≤ k ∧ k ≤ 12
        · rw [if_pos hk] at h
          cases h
          exact ⟨b, by rw [ea], hn, hk, h2⟩
        · rw [if_neg hk] at h
          cases h
    · rw [if_neg ea] at h
      cases h
/-- why a first line tells no web -/
theorem begL_none {d : Ln} (hd : okLn d) (h : begL d = none) : wordsL d = none ∨ ∃ a b, wordsL d = some [a, b] ∧ a.length ≤ 1000000 ∧ b.length ≤ 1000000 ∧ (a ≠ Str.ofString "points" ∨ (a = Str.ofString "points" ∧ (m_number_of b = none ∨ ∃ n, m_number_of b = some n ∧ ¬ (1 ≤ n ∧ n ≤ 12)))) := by
  unfold begL at h
  cases hw : wordsL d with
  | none => exact .inl rfl
  | some ws =>
    obtain ⟨a, b, rfl, h1, h2⟩ := wordsL_two hd hw
    rw [hw] at h
    have i0 : ixD [a, b] 0 = a := rfl
    have i1 : ixD [a, b] 1 = b := rfl
    dsimp only at h
    rw [i0, i1] at h
    refine .inr ⟨a, b, rfl, h1, h2, ?_⟩
    by_cases ea : a = Str.ofString "points"
    · rw [if_pos ea] at h
      refine .inr ⟨ea, ?_⟩
      cases hn : m_number_of b with
      | none => exact .inl rfl
      | some k =>
        rw [hn] at h
        dsimp only at h
        by_cases hk : 1 ≤ k ∧ k ≤ 12
        · rw [if_pos hk] at h
          cases h
        · exact .inr ⟨k, rfl, hk⟩
    · exact .inl ea
theorem putL_some {d : Ln} {n : Int} {ps : List (Int × Int)} {q : Int × Int} (hd : okLn d) (h : putL n ps d = some q) : ∃ a b i j, wordsL d = some [a, b] ∧ a.length ≤ 1000000 ∧ b.length ≤ 1000000 ∧ m_number_of a = some i ∧ m_number_of b = some j ∧ (0 ≤ i ∧ i < n) ∧ (0 ≤ j ∧ j < n) ∧ i ≠ j ∧ pr i j ∉ ps ∧ q = pr i j := by
  unfold putL at h
  cases hw : wordsL d with
  | none =>
    rw [hw] at h
    cases h
  | some ws =>
    obtain ⟨a, b, rfl, h1, h2⟩ := wordsL_two hd hw
    rw [hw] at h
    have i0 : ixD [a, b] 0 = a := rfl
    have i1 : ixD [a, b] 1 = b := rfl
    dsimp only at h
    rw [i0, i1] at h
    cases ha : m_number_of a with
    | none =>
      rw [ha] at h
      cases h
    | some i =>
      cases hb : m_number_of b with
      | none =>
        rw [ha, hb] at h
        cases h
      | some j =>
        rw [ha, hb] at h
        dsimp only at h
        by_cases c : (0 ≤ i ∧ i < n) ∧ (0 ≤ j ∧ j < n) ∧ i ≠ j ∧ pr i j ∉ ps
        · rw [if_pos c] at h
          cases h
          exact ⟨a, b, i, j, rfl, h1, h2, ha, hb, c.1, c.2.1, c.2.2.1, c.2.2.2, rfl⟩
        · rw [if_neg c] at h
          cases h
theorem putL_none {d : Ln} {n : Int} {ps : List (Int × Int)} (hd : okLn d) (h : putL n ps d = none) : wordsL d = none ∨ ∃ a b, wordsL d = some [a, b] ∧ a.length ≤ 1000000 ∧ b.length ≤ 1000000 ∧ (m_number_of a = none ∨ ∃ i, m_number_of a = some i ∧ (m_number_of b = none ∨ ∃ j, m_number_of b = some j ∧ (¬ ((0 ≤ i ∧ i < n) ∧ (0 ≤ j ∧ j < n)) ∨ ((0 ≤ i ∧ i < n) ∧ (0 ≤ j ∧ j < n)) ∧ (i = j ∨ pr i j ∈ ps)))) := by
  unfold putL at h
  cases hw : wordsL d with
  | none => exact .inl rfl
  | some ws =>
    obtain ⟨a, b, rfl, h1, h2⟩ := wordsL_two hd hw
    rw [hw] at h
    have i0 : ixD [a, b] 0 = a := rfl
    have i1 : ixD [a, b] 1 = b := rfl
    dsimp only at h
    rw [i0, i1] at h
    refine .inr ⟨a, b, rfl, h1, h2, ?_⟩
    cases ha : m_number_of a with
    | none => exact .inl rfl
    | some i =>
      refine .inr ⟨i, rfl, ?_⟩
      cases hb : m_number_of b with
      | none => exact .inl rfl
      | some j =>
        refine .inr ⟨j, rfl, ?_⟩
        rw [ha, hb] at h
        dsimp only at h
        by_cases c : (0 ≤ i ∧ i < n) ∧ (0 ≤ j ∧ j < n) ∧ i ≠ j ∧ pr i j ∉ ps
        · rw [if_pos c] at h
          cases h
        · by_cases c2 : (0 ≤ i ∧ i < n) ∧ (0 ≤ j ∧ j < n)
          · refine .inr ⟨c2, ?_⟩
            by_cases e : i = j
            · exact .inl e
            · exact .inr (Classical.byContradiction fun z => c ⟨c2.1, c2.2, e, z⟩)
          · exact .inl c2
/-- the ties qs are put in by the first lines of ds -/
def Steps (n : Int) (ps qs : List (Int × Int)) (ds : List Ln) : Prop := ∀ (i : Nat) (q : Int × Int), qs[i]? = some q → ∃ d, ds[i]? = some d ∧ putL n (ps ++ qs.take i) d = some q
theorem steps_cons {n : Int} {ps qs : List (Int × Int)} {ds : List Ln} {d : Ln} {q : Int × Int} (h : putL n ps d = some q) (t : Steps n (ps ++ [q]) qs ds) : Steps n ps (q :: qs) (d :: ds) := fun i r hr => by
  cases i with
  | zero =>
    cases hr
    exact ⟨d, rfl, by rw [List.take_zero, List.append_nil]; exact h⟩
  | succ i =>
    obtain ⟨d2, h1, h2⟩ := t i r hr
    refine ⟨d2, h1, ?_⟩
    rw [List.append_assoc] at h2
    exact h2
theorem goL_inr {n : Int} : ∀ {ds : List Ln} {k : Int} {ps r : List (Int × Int)}, goL n k ps ds = .inr r → ∃ qs, r = ps ++ qs ∧ qs.length = ds.length ∧ Steps n ps qs ds
  | [], k, ps, r, h => by
    cases h
    exact ⟨[], by rw [List.append_nil], rfl, fun i q z => by simp at z⟩
  | d :: ds, k, ps, r, h => by
    unfold goL at h
    cases e : putL n ps d with
    | none =>
      rw [e] at h
      cases h
    | some q =>
      rw [e] at h
      obtain ⟨qs, h1, h2, h3⟩ := goL_inr h
      exact ⟨q :: qs, by rw [h1, List.append_assoc]; rfl, by rw [List.length_cons, List.length_cons, h2], steps_cons e h3⟩
theorem goL_inl {n j : Int} : ∀ {ds : List Ln} {k : Int} {ps : List (Int × Int)}, goL n k ps ds = .inl j → ∃ qs d, j = k + qs.length ∧ Steps n ps qs ds ∧ ds[qs.length]? = some d ∧ putL n (ps ++ qs) d = none
  | [], k, ps, h => by cases h
  | d :: ds, k, ps, h => by
    unfold goL at h
    cases e : putL n ps d with
    | none =>
      rw [e] at h
      cases h
      exact ⟨[], d, by simp, fun i q z => by simp at z, rfl, by rw [List.append_nil]; exact e⟩
    | some q =>
      rw [e] at h
      obtain ⟨qs, d2, h1, h2, h3, h4⟩ := goL_inl h
      refine ⟨q :: qs, d2, by rw [List.length_cons]; omega, steps_cons e h2, h3, ?_⟩
      rw [List.append_assoc] at h4
      exact h4
/-- all lines that are read are short -/
def okLs (ls : List Ln) : Prop := (∀ d ∈ ls, okLn d) ∧ ls.length ≤ 1000
inductive RdC (ls : List Ln) : Prop
  /-- no line, or none that begins a web -/
  | first (h : readT ls = .at 0) (e : ls = [] ∨ ∃ d ds, ls = d :: ds ∧ begL d = none) : RdC ls
  | bad (d : Ln) (ds : List Ln) (n : Int) (qs : List (Int × Int)) (b : Ln) (e : ls = d :: ds) (hn : begL d = some n) (h : readT ls = .at (1 + qs.length)) (st : Steps n [] qs ds) (hb : ds[qs.length]? = some b) (hp : putL n qs b = none) : RdC ls
  | good (d : Ln) (ds : List Ln) (n : Int) (qs : List (Int × Int)) (e : ls = d :: ds) (hn : begL d = some n) (h : readT ls = .web n (srt qs)) (st : Steps n [] qs ds) (hl : qs.length = ds.length) : RdC ls
theorem rdC (ls : List Ln) : RdC ls := by
  cases ls with
  | nil => exact .first rfl (.inl rfl)
  | cons d ds =>
    cases hn : begL d with
    | none =>
      refine .first ?_ (.inr ⟨d, ds, rfl, hn⟩)
      simp only [readT, hn]
    | some n =>
      cases hg : goL n 1 [] ds with
      | inl j =>
        obtain ⟨qs, b, h1, h2, h3, h4⟩ := goL_inl hg
        refine .bad d ds n qs b rfl hn ?_ h2 h3 h4
        simp only [readT, hn, hg, h1]
      | inr r =>
        obtain ⟨qs, h1, h2, h3⟩ := goL_inr hg
        refine .good d ds n qs rfl hn ?_ h3 h2
        simp only [readT, hn, hg, h1]
        rfl
end CH

/-! k12: the law's reading, plain -/
namespace CH
open PySem PySem.Spec L2 DL
open PyProof.Rows hiding St
open PySem.W (Datum DatumOrd Tup T3)
theorem num_all100 : ((List.range 100).all fun i => m_number_of (strI (i : Int)) == some (i : Int)) = true := by decide +kernel
theorem num_100 {i : Nat} (h : i < 100) : m_number_of (strI (i : Int)) = some (i : Int) := eq_of_beq (List.all_eq_true.mp num_all100 i (List.mem_range.mpr h))
theorem one_all : ((List.range 10).all fun c => decide ((⟨#[48 + c]⟩ : Str) = strI (c : Int))) = true := by decide +kernel
theorem two_all : ((List.range 10).all fun c => (List.range 10).all fun d => (c == 0 && m_number_of ⟨#[48 + c, 48 + d]⟩ == none) || decide ((⟨#[48 + c, 48 + d]⟩ : Str) = strI ((10 * c + d : Nat) : Int))) = true := by decide +kernel
/-- a number that is read is written so -/
theorem num_inv {w : Str} {k : Int} (h : m_number_of w = some k) : ∃ j : Nat, j < 100 ∧ w = strI (j : Int) ∧ k = (j : Int) := by
  have key : ∃ j : Nat, j < 100 ∧ w = strI (j : Int) := by
    have hb : badNum w = false := by
      cases c : badNum w with
      | false => rfl
      | true =>
        unfold m_number_of at h
        rw [show ((!(decide ((1 : Int) ≤ (w.length : Int)) && decide ((w.length : Int) ≤ (2 : Int)))) || (!(List.all (List.map (fun ysign => (leS (Str.ofString "0") ysign && leS ysign (Str.ofString "9"))) (sgnS w)) fun b => b))) = true from c] at h
        cases h
    obtain ⟨⟨h1, h2⟩, hd⟩ := num_good hb
    obtain ⟨⟨l⟩⟩ := w
    have hs : ∀ c ∈ l, ∃ d, d < 10 ∧ c = 48 + d := fun c hc => digit (hd ⟨#[c]⟩ (List.mem_map.mpr ⟨c, hc, rfl⟩))
    have hl1 : 1 ≤ l.length := h1
    have hl2 : l.length ≤ 2 := h2
    match l, hs, hl1, hl2, h with
    | [a], hs, _, _, h =>
      obtain ⟨c, hc, rfl⟩ := hs a List.mem_cons_self
      exact ⟨c, by omega, of_decide_eq_true (List.all_eq_true.mp one_all c (List.mem_range.mpr hc))⟩
    | [a, b], hs, _, _, h =>
      obtain ⟨c, hc, rfl⟩ := hs a List.mem_cons_self
      obtain ⟨d, hd2, rfl⟩ := hs b (List.mem_cons_of_mem _ List.mem_cons_self)
      have q := List.all_eq_true.mp (List.all_eq_true.mp two_all c (List.mem_range.mpr hc)) d (List.mem_range.mpr hd2)
      rcases Bool.or_eq_true_iff.mp q with z | z
      · have z2 := eq_of_beq (Bool.and_eq_true_iff.mp z).2
        have z3 : m_number_of ⟨#[48 + c, 48 + d]⟩ = some k := h
        rw [z2] at z3
        cases z3
      · exact ⟨10 * c + d, by omega, of_decide_eq_true z⟩
  obtain ⟨j, hj, rfl⟩ := key
  rw [num_100 hj] at h
  exact ⟨j, hj, rfl, (Option.some.inj h).symm⟩
def texts100 : List Str := (rng 0 100).map strI
theorem texts_get {j : Nat} (h : j < 100) : texts100[j]? = some (strI (j : Int)) := by
  unfold texts100
  rw [List.getElem?_map]
  have e : (rng 0 100)[j]? = some (j : Int) := by
    unfold rng
    rw [List.getElem?_map, List.getElem?_range (show j < ((100 : Int) - 0).toNat by omega)]
    show some ((0 : Int) + (j : Int)) = _
    rw [Int.zero_add]
  rw [e]
  rfl
theorem texts_mem {w : Str} : w ∈ texts100 ↔ ∃ j : Nat, j < 100 ∧ w = strI (j : Int) := by
  constructor
  · intro h
    unfold texts100 at h
    obtain ⟨i, hi, rfl⟩ := List.mem_map.mp h
    have := mem_rng.mp hi
    exact ⟨i.toNat, by omega, by rw [Int.toNat_of_nonneg (by omega)]⟩
  · rintro ⟨j, hj, rfl⟩
    exact List.mem_of_getElem? (texts_get hj)
theorem texts_first {j m : Nat} (hj : j < 100) (hm : m < j) : texts100[m]? ≠ some (strI (j : Int)) := by
  rw [texts_get (by omega)]
  intro z
  have e := num_100 (i := m) (by omega)
  rw [Option.some.inj z, num_100 hj] at e
  have := Option.some.inj e
  omega
theorem num_mem {w : Str} (h : w ∈ texts100) : ∃ j : Nat, j < 100 ∧ w = strI (j : Int) ∧ m_number_of w = some (j : Int) := by
  obtain ⟨j, hj, rfl⟩ := texts_mem.mp h
  exact ⟨j, hj, rfl, num_100 hj⟩
theorem num_nomem {w : Str} (h : w ∉ texts100) : m_number_of w = none := by
  cases e : m_number_of w with
  | none => rfl
  | some k =>
    obtain ⟨j, hj, hw, _⟩ := num_inv e
    exact absurd (texts_mem.mpr ⟨j, hj, hw⟩) h
theorem num_nn {w : Str} {k : Int} (h : m_number_of w = some k) : 0 ≤ k := by
  obtain ⟨j, _, _, rfl⟩ := num_inv h
  omega
/-- a line's words -/
def splitL : Ln → List Str
  | .s x => Txt.split x (Str.ofString " ")
  | _ => []
theorem wordsL_no {d : Ln} (h : wordsL d = none) : ((splitL d).length : Int) ≠ 2 := by
  cases d with
  | s x =>
    have h' : m_words_of x = none := h
    unfold m_words_of at h'
    cases c : ((!true) || (!eqB ((Txt.split x (Str.ofString " ")).length : Int) (2 : Int))) with
    | true =>
      simp only [Bool.not_true, Bool.false_or, Bool.not_eq_true', eqB_false] at c
      exact c
    | false =>
      rw [c] at h'
      cases h'
  | n => show ((0 : Nat) : Int) ≠ 2; decide
  | i k => show ((0 : Nat) : Int) ≠ 2; decide
  | l xs => show ((0 : Nat) : Int) ≠ 2; decide
theorem wordsL_yes {d : Ln} {ws : List Str} (h : wordsL d = some ws) : splitL d = ws := by
  cases d with
  | s x =>
    have h' : m_words_of x = some ws := h
    unfold m_words_of at h'
    cases c : ((!true) || (!eqB ((Txt.split x (Str.ofString " ")).length : Int) (2 : Int))) with
    | true =>
      rw [c] at h'
      cases h'
    | false =>
      rw [c] at h'
      exact Option.some.inj h'
  | n => cases h
  | i k => cases h
  | l xs => cases h
theorem srt_two (p q : Int) : srt [p, q] = [imin p q, imax p q] := by
  have hp := srt_perm [p, q]
  have hw : (srt [p, q]).Pairwise fun a b => a ≤ b := by
    have h := List.pairwise_mergeSort (le := fun a b : Int => !DatumOrd.lt b a) (fun a b c h1 h2 => ?_) (fun a b => ?_) [p, q]
    · refine List.Pairwise.imp (fun {a b} h => ?_) h
      have h' : (!decide (b < a)) = true := h
      simpa using h'
    · have h1' : (!decide (b < a)) = true := h1
      have h2' : (!decide (c < b)) = true := h2
      show (!decide (c < a)) = true
      simp only [Bool.not_eq_true', decide_eq_false_iff_not] at *
      omega
    · show (!decide (b < a) || !decide (a < b)) = true
      by_cases h : b < a
      · simp [h]
        omega
      · simp [h]
  have hl := hp.length_eq
  match e : srt [p, q], hl with
  | [a, b], _ =>
    rw [e] at hp hw
    have hab : a ≤ b := by
      have := (List.pairwise_cons.mp hw).1 b List.mem_cons_self
      exact this
    have h1 : a = p ∨ a = q := by
      have := hp.mem_iff.mp (List.mem_cons_self (a := a) (l := [b]))
      simpa using this
    have h2 : b = p ∨ b = q := by
      have := hp.mem_iff.mp (List.mem_cons_of_mem a (List.mem_cons_self (a := b) (l := [])))
      simpa using this
    have h4 : p = a ∨ p = b := by
      have := hp.mem_iff.mpr (List.mem_cons_self (a := p) (l := [q]))
      simpa using this
    have h5 : q = a ∨ q = b := by
      have := hp.mem_iff.mpr (List.mem_cons_of_mem p (List.mem_cons_self (a := q) (l := [])))
      simpa using this
    have h3 : imin p q ≤ imax p q ∧ imin p q + imax p q = p + q ∧ (imin p q = p ∨ imin p q = q) := by
      unfold imin imax
      by_cases h : q < p
      · rw [if_pos h, if_neg (by omega)]
        omega
      · rw [if_neg h]
        by_cases h2 : q > p
        · rw [if_pos h2]
          omega
        · rw [if_neg h2]
          omega
    have ha : a = imin p q := by omega
    have hb : b = imax p q := by omega
    rw [ha, hb]
theorem max_two (p q : Int) : maxL [p, q] = imax p q := by
  have h := maxL_lt (l := [p, q]) (by intro z; cases z)
  have e : ∀ a b : Int, DatumOrd.lt a b = decide (a < b) := fun _ _ => rfl
  have h1 := h.2 p List.mem_cons_self
  have h2 := h.2 q (List.mem_cons_of_mem _ List.mem_cons_self)
  rw [e, decide_eq_false_iff_not] at h1 h2
  unfold imax
  rcases List.mem_cons.mp h.1 with z | z
  · rw [z] at h1 h2 ⊢
    by_cases c : q > p
    · omega
    · rw [if_neg c]
  · have z2 := List.mem_singleton.mp z
    rw [z2] at h1 h2 ⊢
    by_cases c : q > p
    · rw [if_pos c]
    · rw [if_neg c]
      omega
end CH

/-! k12: lines made otherwise, plain -/
namespace CH
open PySem PySem.Spec L2 DL
open PyProof.Rows hiding St
open PySem.W (Datum DatumOrd Tup T3)
def signs15 : Str := Str.ofString "0123456789 -p.x"
def odds : List Ln := [.s (Str.ofString ""), .s (Str.ofString "points"), .s (Str.ofString "points 3"), .s (Str.ofString "0 0"), .s (Str.ofString "1 0"), .s (Str.ofString "0 12"), .s (Str.ofString "00 1"), .s (Str.ofString "0  1"), .s (Str.ofString " 0 1"), .s (Str.ofString "0 1 "), .n, .i 5, .l [Str.ofString "0 1"], .s (Str.ofString "a b")]
abbrev bAt (xs : List Str) (num : Int) : Int := num % (xs.length : Int)
abbrev bLine (xs : List Str) (num : Int) : Str := ixD xs (bAt xs num)
abbrev bSpot (xs : List Str) (num : Int) : Int := num / 64 % (((bLine xs num).length : Int) + 1)
abbrev bSign (num : Int) : Str := ixD (sgnS signs15) (num / 1024 % 15)
abbrev bWay (num : Int) : Int := num / 16384 % 8
def bNew (xs : List Str) (num : Int) : List Str := [cutS (bLine xs num) none (some (bSpot xs num)) ++ bSign num ++ cutS (bLine xs num) (some (bSpot xs num)) none, cutS (bLine xs num) none (some (bSpot xs num)) ++ cutS (bLine xs num) (some (bSpot xs num + 1)) none, cutS (bLine xs num) none (some (bSpot xs num)) ++ bSign num ++ cutS (bLine xs num) (some (bSpot xs num + 1)) none]
def bentL (xs : List Str) (num : Int) : List Ln :=
  if bWay num < 3 then (cutL xs none (some (bAt xs num)) ++ [ixD (bNew xs num) (bWay num)] ++ cutL xs (some (bAt xs num + 1)) none).map Ln.s
  else if bWay num = 3 then (cutL xs none (some (bAt xs num)) ++ cutL xs (some (bAt xs num)) (some (bAt xs num + 1)) ++ cutL xs (some (bAt xs num)) none).map Ln.s
  else if bWay num = 4 ∧ (xs.length : Int) > 1 then (cutL xs none (some (bAt xs num)) ++ cutL xs (some (bAt xs num + 1)) none).map Ln.s
  else if bWay num = 5 then (cutL xs none (some (bAt xs num)) ++ (cutL xs (some (bAt xs num)) (some (bAt xs num + 2))).reverse ++ cutL xs (some (bAt xs num + 2)) none).map Ln.s
  else (cutL xs none (some (bAt xs num + bWay num % 2))).map Ln.s ++ [ixD odds (num / 64 % 14)] ++ (cutL xs (some (bAt xs num + 1)) none).map Ln.s
theorem sIx_pos {n d : Nat} {c : Int} (h : 0 ≤ c) : HT.sIx n d (some c) = min c.toNat n := by
  show (if c < 0 then (c + (n : Int)).toNat else min c.toNat n) = min c.toNat n
  rw [if_neg (by omega)]
theorem cut_lo {α : Type} {xs : List α} {c : Int} (h : 0 ≤ c) : (cutL xs none (some c)).length = min c.toNat xs.length := by
  unfold cutL
  rw [sIx_pos h, show HT.sIx xs.length 0 none = 0 from rfl, List.length_take, List.length_drop]
  omega
theorem cut_hi {α : Type} {xs : List α} {c : Int} (h : 0 ≤ c) : (cutL xs (some c) none).length = xs.length - c.toNat := by
  unfold cutL
  rw [sIx_pos h, show HT.sIx xs.length xs.length none = xs.length from rfl, List.length_take, List.length_drop]
  omega
theorem cut_mid {α : Type} {xs : List α} {c e : Int} (h : 0 ≤ c) (h2 : 0 ≤ e) : (cutL xs (some c) (some e)).length = min e.toNat xs.length - min c.toNat xs.length := by
  unfold cutL
  rw [sIx_pos h, sIx_pos h2, List.length_take, List.length_drop]
  omega
/-- lines of texts no longer than k -/
def shortS (k : Nat) (xs : List Str) : Prop := ∀ x ∈ xs, x.length ≤ k
theorem bAt_in {xs : List Str} {num : Int} (h : xs ≠ []) : 0 ≤ bAt xs num ∧ bAt xs num < xs.length := by
  have l := List.length_pos_iff.mpr h
  exact ⟨Int.emod_nonneg _ (by omega), Int.emod_lt_of_pos _ (by omega)⟩
theorem bWay_in (num : Int) : 0 ≤ bWay num ∧ bWay num < 8 := ⟨Int.emod_nonneg _ (by decide), Int.emod_lt_of_pos _ (by decide)⟩
theorem bent_len {xs : List Str} {num : Int} (h : xs ≠ []) : 1 ≤ (bentL xs num).length ∧ (bentL xs num).length ≤ xs.length + 1 := by
  have a := bAt_in (num := num) h
  have w := bWay_in num
  unfold bentL
  split
  · rw [List.length_map, List.length_append, List.length_append, List.length_singleton, cut_lo a.1, cut_hi (by omega)]
    omega
  · split
    · rw [List.length_map, List.length_append, List.length_append, cut_lo a.1, cut_hi a.1, cut_mid a.1 (by omega)]
      omega
    · split
      · rename_i c
        rw [List.length_map, List.length_append, cut_lo a.1, cut_hi (by omega)]
        have := c.2
        omega
      · split
        · rw [List.length_map, List.length_append, List.length_append, List.length_reverse, cut_lo a.1, cut_hi (by omega), cut_mid a.1 (by omega)]
          omega
        · have m0 : 0 ≤ bWay num % 2 ∧ bWay num % 2 < 2 := ⟨Int.emod_nonneg _ (by decide), Int.emod_lt_of_pos _ (by decide)⟩
          rw [List.length_append, List.length_append, List.length_singleton, List.length_map, List.length_map, cut_lo (by omega), cut_hi (by omega)]
          omega
theorem ixB_mem {α : Type} [Inhabited α] {xs : List α} {i : Int} (h : 0 ≤ i ∧ i < xs.length) : ixD xs i ∈ xs := by
  have e := ixD_get (xs := xs) (i := i) h
  exact List.mem_of_getElem? e
theorem sign_one {num : Int} : (bSign num).length = 1 := by
  have l : (sgnS signs15).length = 15 := by decide +kernel
  have m : bSign num ∈ sgnS signs15 := ixB_mem ⟨Int.emod_nonneg (num / 1024) (b := 15) (by decide), by rw [l]; exact Int.emod_lt_of_pos (num / 1024) (b := 15) (by decide)⟩
  unfold sgnS at m
  obtain ⟨c, _, e⟩ := List.mem_map.mp m
  rw [← e]
  rfl
theorem bNew_short {xs : List Str} {num : Int} {k : Nat} (h : xs ≠ []) (hs : shortS k xs) : shortS (2 * k + 1) (bNew xs num) := fun x hx => by
  have a := bAt_in (num := num) h
  have hl : (bLine xs num).length ≤ k := hs _ (ixB_mem a)
  have c1 := cutS_length (bLine xs num) none (some (bSpot xs num))
  have c2 := cutS_length (bLine xs num) (some (bSpot xs num)) none
  have c3 := cutS_length (bLine xs num) (some (bSpot xs num + 1)) none
  have s1 := sign_one (num := num)
  unfold bNew at hx
  rcases List.mem_cons.mp hx with rfl | hx
  · rw [app_len, app_len]
    omega
  · rcases List.mem_cons.mp hx with rfl | hx
    · rw [app_len]
      omega
    · rw [List.mem_singleton.mp hx, app_len, app_len]
      omega
/-- a line no longer than k -/
def shortL (k : Nat) : Ln → Prop
  | .s x => x.length ≤ k
  | _ => True
theorem odds_short : ∀ d ∈ odds, shortL 8 d := by
  have e : (odds.all fun d => match d with
    | .s x => decide (x.length ≤ 8)
    | _ => true) = true := by decide +kernel
  intro d hd
  have q := List.all_eq_true.mp e d hd
  cases d with
  | s x =>
    have q2 : decide (x.length ≤ 8) = true := q
    exact of_decide_eq_true (p := x.length ≤ 8) q2
  | n => exact trivial
  | i k => exact trivial
  | l xs => exact trivial
theorem cutL_mem {α : Type} {xs : List α} {lo hi : Option Int} {x : α} (h : x ∈ cutL xs lo hi) : x ∈ xs := (cutL_sub xs lo hi).subset h
theorem map_short {xs : List Str} {k : Nat} (h : shortS k xs) : ∀ d ∈ xs.map Ln.s, shortL k d := fun d hd => by
  obtain ⟨x, hx, rfl⟩ := List.mem_map.mp hd
  exact h x hx
theorem bent_short {xs : List Str} {num : Int} {k : Nat} (h : xs ≠ []) (hk : 8 ≤ k) (hs : shortS k xs) : ∀ d ∈ bentL xs num, shortL (2 * k + 1) d := by
  have w := bWay_in num
  have cs : ∀ lo hi, shortS (2 * k + 1) (cutL xs lo hi) := fun lo hi x hx => by have := hs x (cutL_mem hx); omega
  have app : ∀ {a b : List Str}, shortS (2 * k + 1) a → shortS (2 * k + 1) b → shortS (2 * k + 1) (a ++ b) := fun ha hb x hx => (List.mem_append.mp hx).elim (ha x) (hb x)
  unfold bentL
  split
  · refine map_short (app (app (cs _ _) ?_) (cs _ _))
    intro x hx
    rw [List.mem_singleton.mp hx]
    exact bNew_short h hs _ (ixB_mem ⟨w.1, by rename_i c; show bWay num < (3 : Int); exact c⟩)
  · split
    · exact map_short (app (app (cs _ _) (cs _ _)) (cs _ _))
    · split
      · exact map_short (app (cs _ _) (cs _ _))
      · split
        · refine map_short (app (app (cs _ _) (fun x hx => cs _ _ x (List.mem_reverse.mp hx))) (cs _ _))
        · intro d hd
          rcases List.mem_append.mp hd with hd | hd
          · rcases List.mem_append.mp hd with hd | hd
            · exact map_short (cs _ _) d hd
            · rw [List.mem_singleton.mp hd]
              have q := odds_short _ (ixB_mem (xs := odds) (i := num / 64 % 14) ⟨Int.emod_nonneg (num / 64) (b := 14) (by decide), Int.emod_lt_of_pos (num / 64) (b := 14) (by decide)⟩)
              cases e : ixD odds (num / 64 % 14) with
              | s x =>
                rw [e] at q
                have q2 : x.length ≤ 8 := q
                show x.length ≤ 2 * k + 1
                omega
              | n => exact trivial
              | i k => exact trivial
              | l xs => exact trivial
          · exact map_short (cs _ _) d hd
/-- is a text; the text -/
def isS : Ln → Bool
  | .s _ => true
  | _ => false
def asS : Ln → Str
  | .s x => x
  | _ => default
def textsOf (ls : List Ln) : List Str := (ls.filter isS).map asS
theorem texts_short {ls : List Ln} {k : Nat} (h : ∀ d ∈ ls, shortL k d) : shortS k (textsOf ls) := fun x hx => by
  obtain ⟨d, hd, rfl⟩ := List.mem_map.mp hx
  obtain ⟨h1, h2⟩ := List.mem_filter.mp hd
  have q := h d h1
  cases d with
  | s x => exact q
  | n => cases h2
  | i k => cases h2
  | l xs => cases h2
theorem texts_len (ls : List Ln) : (textsOf ls).length ≤ ls.length := by
  unfold textsOf
  rw [List.length_map]
  exact List.length_filter_le _ _
theorem ok_short {ls : List Ln} {k : Nat} (hk : k ≤ 1000000) (h : ∀ d ∈ ls, shortL k d) (hl : ls.length ≤ 1000) : okLs ls := ⟨fun d hd => by
  have q := h d hd
  cases d with
  | s x =>
    have q2 : x.length ≤ k := q
    show x.length ≤ 1000000
    omega
  | n => exact trivial
  | i k => exact trivial
  | l xs => exact trivial, hl⟩
/-! the lines of a web -/
theorem pos_all : ((List.range 13).all fun n => n == 0 || begL (.s (lineP (n : Int))) == some (n : Int)) = true := by decide +kernel
theorem beg_good {n : Int} (h : 1 ≤ n ∧ n ≤ 12) : begL (.s (lineP n)) = some n := by
  obtain ⟨k, rfl⟩ : ∃ k : Nat, n = k := ⟨n.toNat, by omega⟩
  rcases Bool.or_eq_true_iff.mp (List.all_eq_true.mp pos_all k (List.mem_range.mpr (by omega))) with z | z
  · have := eq_of_beq z
    omega
  · exact eq_of_beq z
theorem put_line {n : Int} (hn : n ≤ 12) {ps : List (Int × Int)} {q : Int × Int} (h : 0 ≤ q.1 ∧ q.1 < q.2 ∧ q.2 < n) (hq : q ∉ ps) : putL n ps (.s (lineT q)) = some q := by
  have h1 : 0 ≤ q.1 ∧ q.1 ≤ 12 := by omega
  have h2 : 0 ≤ q.2 ∧ q.2 ≤ 12 := by omega
  have e : wordsL (.s (lineT q)) = some [strI q.1, strI q.2] := words_t h1 h2
  have ep : pr q.1 q.2 = q := pr_lt h.2.1
  unfold putL
  rw [e]
  show (match m_number_of (strI q.1), m_number_of (strI q.2) with
    | some a, some b => if (0 ≤ a ∧ a < n) ∧ (0 ≤ b ∧ b < n) ∧ a ≠ b ∧ pr a b ∉ ps then some (pr a b) else none
    | _, _ => none) = some q
  rw [num_of h1, num_of h2]
  show (if (0 ≤ q.1 ∧ q.1 < n) ∧ (0 ≤ q.2 ∧ q.2 < n) ∧ q.1 ≠ q.2 ∧ pr q.1 q.2 ∉ ps then some (pr q.1 q.2) else none) = some q
  rw [ep, if_pos ⟨⟨h.1, by omega⟩, ⟨by omega, h.2.2⟩, by omega, hq⟩]
theorem go_good {n : Int} (hn : n ≤ 12) : ∀ {qs ps : List (Int × Int)} {k : Int}, (∀ q ∈ qs, 0 ≤ q.1 ∧ q.1 < q.2 ∧ q.2 < n) → (ps ++ qs).Nodup → goL n k ps (qs.map fun q => Ln.s (lineT q)) = .inr (ps ++ qs)
  | [], ps, k, _, _ => by rw [List.append_nil]; rfl
  | q :: qs, ps, k, h, nd => by
    have hq : q ∉ ps := fun z => (List.nodup_append.mp nd).2.2 q z q List.mem_cons_self rfl
    rw [List.map_cons, goL, put_line hn (h q List.mem_cons_self) hq]
    show goL n (k + 1) (ps ++ [q]) (qs.map fun q => Ln.s (lineT q)) = _
    rw [go_good hn (fun z hz => h z (List.mem_cons_of_mem _ hz)) (by rw [List.append_assoc]; exact nd), List.append_assoc]
    rfl
def goodS (n : Int) (ps : List (Int × Int)) : List Str := lineP n :: ps.map lineT
theorem read_good {n : Int} {ps : List (Int × Int)} (hn : 1 ≤ n ∧ n ≤ 12) (hg : Good n ps) : readT ((goodS n ps).map Ln.s) = .web n (srt ps) := by
  have e : (goodS n ps).map Ln.s = .s (lineP n) :: ps.map fun q => Ln.s (lineT q) := by
    unfold goodS
    rw [List.map_cons, List.map_map]
    rfl
  rw [e]
  have h2 := go_good hn.2 (ps := []) (k := 1) hg.1 hg.2
  simp only [readT, beg_good hn, h2]
  rfl
theorem good_short {n : Int} {ps : List (Int × Int)} (hn : 1 ≤ n ∧ n ≤ 12) (hg : Good n ps) : shortS 9 (goodS n ps) := fun x hx => by
  rcases List.mem_cons.mp hx with rfl | hx
  · exact lineP_len (by omega)
  · obtain ⟨q, hq, rfl⟩ := List.mem_map.mp hx
    have := hg.1 q hq
    have := lineT_len (q := q) (by omega) (by omega)
    omega
end CH

namespace CH
open PySem PySem.Spec L2 DL
open PyProof.Rows hiding St
open PySem.W (Datum DatumOrd Tup T3)
def top (i : Nat) : Stmt := PySem.Challenge.pw_cornerhunt_k12_lines_refused.main.body.getD i (.Pass ⟨0, 0, 0, 0⟩)
abbrev s_BadLine__init_ : Stmt := inClass (top 9) 0
abbrev s_is_among : Stmt := top 12
abbrev s_Web__init_ : Stmt := inClass (top 13) 0
abbrev s_Web_many : Stmt := inClass (top 13) 1
abbrev s_Web_need_point : Stmt := inClass (top 13) 2
abbrev s_Web_pair : Stmt := inClass (top 13) 3
abbrev s_Web_tie : Stmt := inClass (top 13) 4
abbrev s_Web_untie : Stmt := inClass (top 13) 5
abbrev s_Web_is_tied : Stmt := inClass (top 13) 6
abbrev s_Web_ties : Stmt := inClass (top 13) 7
abbrev s_Web_near : Stmt := inClass (top 13) 8
abbrev s_Web_part_of : Stmt := inClass (top 13) 9
abbrev s_Web_parts : Stmt := inClass (top 13) 10
abbrev s_number_of : Stmt := top 16
abbrev s_words_of : Stmt := top 17
abbrev s_begun : Stmt := top 18
abbrev s_is_put : Stmt := top 19
abbrev s_web_of : Stmt := top 20
abbrev s_law_draw : Stmt := top 22
abbrev s_law_word : Stmt := top 23
abbrev s_law_pairs : Stmt := top 24
abbrev s_law_drawn : Stmt := top 25
abbrev s_law_number : Stmt := top 26
abbrev s_law_read : Stmt := top 27
abbrev s_law_told : Stmt := top 28
abbrev s_law_bent : Stmt := top 29
abbrev s_law : Stmt := top 30
structure Tx (K : PySem.W.Frag) (mg : Str → Option Value) : Prop where
  len : mg "len" = none
  min : mg "min" = none
  max : mg "max" = none
  sorted : mg "sorted" = none
  list : mg "list" = none
  range : mg "range" = none
  isinstance : mg "isinstance" = none
  int : mg "int" = none
  bool : mg "bool" = none
  all : mg "all" = none
  enumerate : mg "enumerate" = none
  str : mg "str" = none
  tuple : mg "tuple" = none
  set : mg "set" = none
  cl_Web : Cls K (He.ga K "Web")
  na_Web_size : NoAttr K (He.ga K "Web") "size"
  na_Web_pairs : NoAttr K (He.ga K "Web") "pairs"
  d_Web__init_ : ∃ f fd, FnP K "__init__" "Web.__init__" s_Web__init_ f fd ∧ Mk K (He.ga K "Web") f
  g_Web : mg "Web" = some (.ref (He.ga K "Web"))
  c_MOST_POINTS : ∃ t, mg "MOST_POINTS" = some (.int 12 t)
  c_MOST_FIGURES : ∃ t, mg "MOST_FIGURES" = some (.int 2 t)
  g_HuntError : mg "HuntError" = some (.ref (He.ga K "HuntError"))
  kit_None_HuntError : PySem.W.kitOne K (.type "NoneType") (.ref (He.ga K "HuntError")) = some false
  g_BadWeb : mg "BadWeb" = some (.ref (He.ga K "BadWeb"))
  kit_None_BadWeb : PySem.W.kitOne K (.type "NoneType") (.ref (He.ga K "BadWeb")) = some false
  g_NoPoint : mg "NoPoint" = some (.ref (He.ga K "NoPoint"))
  kit_None_NoPoint : PySem.W.kitOne K (.type "NoneType") (.ref (He.ga K "NoPoint")) = some false
  g_BadTie : mg "BadTie" = some (.ref (He.ga K "BadTie"))
  kit_None_BadTie : PySem.W.kitOne K (.type "NoneType") (.ref (He.ga K "BadTie")) = some false
  g_BadCount : mg "BadCount" = some (.ref (He.ga K "BadCount"))
  kit_None_BadCount : PySem.W.kitOne K (.type "NoneType") (.ref (He.ga K "BadCount")) = some false
  g_TooMany : mg "TooMany" = some (.ref (He.ga K "TooMany"))
  kit_None_TooMany : PySem.W.kitOne K (.type "NoneType") (.ref (He.ga K "TooMany")) = some false
  g_BadStanding : mg "BadStanding" = some (.ref (He.ga K "BadStanding"))
  kit_None_BadStanding : PySem.W.kitOne K (.type "NoneType") (.ref (He.ga K "BadStanding")) = some false
  g_BadLine : mg "BadLine" = some (.ref (He.ga K "BadLine"))
  kit_None_BadLine : PySem.W.kitOne K (.type "NoneType") (.ref (He.ga K "BadLine")) = some false
  ValueError : mg "ValueError" = none
  x_NoPoint : ExcK K mg "NoPoint"
  exm_NoPoint : PySem.W.exmOne K (.ref (He.ga K "NoPoint")) (.ref (He.ga K "HuntError")) = some true
  kit_NoPoint_HuntError : PySem.W.kitOne K (.ref (He.ga K "NoPoint")) (.ref (He.ga K "HuntError")) = some true
  kit_NoPoint_BadWeb : PySem.W.kitOne K (.ref (He.ga K "NoPoint")) (.ref (He.ga K "BadWeb")) = some false
  kit_NoPoint_NoPoint : PySem.W.kitOne K (.ref (He.ga K "NoPoint")) (.ref (He.ga K "NoPoint")) = some true
  kit_NoPoint_BadTie : PySem.W.kitOne K (.ref (He.ga K "NoPoint")) (.ref (He.ga K "BadTie")) = some false
  kit_NoPoint_BadCount : PySem.W.kitOne K (.ref (He.ga K "NoPoint")) (.ref (He.ga K "BadCount")) = some false
  kit_NoPoint_TooMany : PySem.W.kitOne K (.ref (He.ga K "NoPoint")) (.ref (He.ga K "TooMany")) = some false
  kit_NoPoint_BadStanding : PySem.W.kitOne K (.ref (He.ga K "NoPoint")) (.ref (He.ga K "BadStanding")) = some false
  kit_NoPoint_BadLine : PySem.W.kitOne K (.ref (He.ga K "NoPoint")) (.ref (He.ga K "BadLine")) = some false
  kit_NoPoint_ValueError : PySem.W.kitOne K (.ref (He.ga K "NoPoint")) (.type "ValueError") = some true
  x_BadTie : ExcK K mg "BadTie"
  exm_BadTie : PySem.W.exmOne K (.ref (He.ga K "BadTie")) (.ref (He.ga K "HuntError")) = some true
  kit_BadTie_HuntError : PySem.W.kitOne K (.ref (He.ga K "BadTie")) (.ref (He.ga K "HuntError")) = some true
  kit_BadTie_BadWeb : PySem.W.kitOne K (.ref (He.ga K "BadTie")) (.ref (He.ga K "BadWeb")) = some false
  kit_BadTie_NoPoint : PySem.W.kitOne K (.ref (He.ga K "BadTie")) (.ref (He.ga K "NoPoint")) = some false
  kit_BadTie_BadTie : PySem.W.kitOne K (.ref (He.ga K "BadTie")) (.ref (He.ga K "BadTie")) = some true
  kit_BadTie_BadCount : PySem.W.kitOne K (.ref (He.ga K "BadTie")) (.ref (He.ga K "BadCount")) = some false
  kit_BadTie_TooMany : PySem.W.kitOne K (.ref (He.ga K "BadTie")) (.ref (He.ga K "TooMany")) = some false
  kit_BadTie_BadStanding : PySem.W.kitOne K (.ref (He.ga K "BadTie")) (.ref (He.ga K "BadStanding")) = some false
  kit_BadTie_BadLine : PySem.W.kitOne K (.ref (He.ga K "BadTie")) (.ref (He.ga K "BadLine")) = some false
  kit_BadTie_ValueError : PySem.W.kitOne K (.ref (He.ga K "BadTie")) (.type "ValueError") = some true
  x_BadWeb : ExcK K mg "BadWeb"
  exm_BadWeb : PySem.W.exmOne K (.ref (He.ga K "BadWeb")) (.ref (He.ga K "HuntError")) = some true
  kit_BadWeb_HuntError : PySem.W.kitOne K (.ref (He.ga K "BadWeb")) (.ref (He.ga K "HuntError")) = some true
  kit_BadWeb_BadWeb : PySem.W.kitOne K (.ref (He.ga K "BadWeb")) (.ref (He.ga K "BadWeb")) = some true
  kit_BadWeb_NoPoint : PySem.W.kitOne K (.ref (He.ga K "BadWeb")) (.ref (He.ga K "NoPoint")) = some false
  kit_BadWeb_BadTie : PySem.W.kitOne K (.ref (He.ga K "BadWeb")) (.ref (He.ga K "BadTie")) = some false
  kit_BadWeb_BadCount : PySem.W.kitOne K (.ref (He.ga K "BadWeb")) (.ref (He.ga K "BadCount")) = some false
  kit_BadWeb_TooMany : PySem.W.kitOne K (.ref (He.ga K "BadWeb")) (.ref (He.ga K "TooMany")) = some false
  kit_BadWeb_BadStanding : PySem.W.kitOne K (.ref (He.ga K "BadWeb")) (.ref (He.ga K "BadStanding")) = some false
  kit_BadWeb_BadLine : PySem.W.kitOne K (.ref (He.ga K "BadWeb")) (.ref (He.ga K "BadLine")) = some false
  kit_BadWeb_ValueError : PySem.W.kitOne K (.ref (He.ga K "BadWeb")) (.type "ValueError") = some true
  xe_BadLine : ExcC K (He.ga K "BadLine")
  xo_BadLine : OexC K (He.ga K "BadLine")
  xn_BadLine : PySem.W.findIn K (.ref (He.ga K "BadLine")) "place" = some none
  xh_HuntError : HinC K (He.ga K "HuntError")
  exm_BadLine : PySem.W.exmOne K (.ref (He.ga K "BadLine")) (.ref (He.ga K "HuntError")) = some true
  kit_BadLine_HuntError : PySem.W.kitOne K (.ref (He.ga K "BadLine")) (.ref (He.ga K "HuntError")) = some true
  kit_BadLine_BadWeb : PySem.W.kitOne K (.ref (He.ga K "BadLine")) (.ref (He.ga K "BadWeb")) = some false
  kit_BadLine_NoPoint : PySem.W.kitOne K (.ref (He.ga K "BadLine")) (.ref (He.ga K "NoPoint")) = some false
  kit_BadLine_BadTie : PySem.W.kitOne K (.ref (He.ga K "BadLine")) (.ref (He.ga K "BadTie")) = some false
  kit_BadLine_BadCount : PySem.W.kitOne K (.ref (He.ga K "BadLine")) (.ref (He.ga K "BadCount")) = some false
  kit_BadLine_TooMany : PySem.W.kitOne K (.ref (He.ga K "BadLine")) (.ref (He.ga K "TooMany")) = some false
  kit_BadLine_BadStanding : PySem.W.kitOne K (.ref (He.ga K "BadLine")) (.ref (He.ga K "BadStanding")) = some false
  kit_BadLine_BadLine : PySem.W.kitOne K (.ref (He.ga K "BadLine")) (.ref (He.ga K "BadLine")) = some true
  kit_BadLine_ValueError : PySem.W.kitOne K (.ref (He.ga K "BadLine")) (.type "ValueError") = some true
  ob_Web : ObC K (He.ga K "Web")
  d_m_draw : DefG K mg "_law_draw" s_law_draw
  d_m_pairs : DefG K mg "_law_pairs" s_law_pairs
  d_m_drawn : DefG K mg "_law_drawn" s_law_drawn
  d_m_is_among : DefG K mg "is_among" s_is_among
  d_m_Web_many : DefM K (He.ga K "Web") "many" "Web.many" s_Web_many
  d_m_Web_need_point : DefM K (He.ga K "Web") "need_point" "Web.need_point" s_Web_need_point
  d_m_Web_pair : DefM K (He.ga K "Web") "pair" "Web.pair" s_Web_pair
  d_m_Web_tie : DefM K (He.ga K "Web") "tie" "Web.tie" s_Web_tie
  d_m_Web_ties : DefM K (He.ga K "Web") "ties" "Web.ties" s_Web_ties
  d_m_number_of : DefG K mg "number_of" s_number_of
  d_m_words_of : DefG K mg "words_of" s_words_of
  d_m_word : DefG K mg "_law_word" s_law_word
  d_m_bl : DefM K (He.ga K "BadLine") "__init__" "BadLine.__init__" s_BadLine__init_
  d_m_begun : DefG K mg "begun" s_begun
  d_m_is_put : DefG K mg "is_put" s_is_put
  d_m_web_of : DefG K mg "web_of" s_web_of
  d_m_told : DefG K mg "_law_told" s_law_told
  d_m_lnum : DefG K mg "_law_number" s_law_number
  d_m_read : DefG K mg "_law_read" s_law_read
  d_m_bent : DefG K mg "_law_bent" s_law_bent
  d_m_law : DefG K mg "law" s_law
section
variable {P : Program} {w : World} {K : PySem.W.Frag} {mg : Str → Option Value} {base : Heap}
abbrev pre_m_draw : (List Int) → Int → Prop := fun sc k => 0 ≤ k ∧ k ≤ 100000
abbrev Q_m_draw (P : Program) (w : World) (K : PySem.W.Frag) (mg : Str → Option Value) (base : Heap) : Prop := FnG P w K mg base 2 "_law_draw" ["_law_script", "_law_k"] (R2 pre_m_draw m_draw)
abbrev nn_m_draw : List Str := ["_law_script", "_law_k", "_law_cell", "_law_number_here"]
theorem sc_m_draw : FnScope nn_m_draw ["_law_script", "_law_k"] (defScope s_law_draw) := ⟨rfl, rfl, rfl, by decide +kernel, rfl, by decide +kernel, by decide +kernel⟩
theorem ok_m_draw (T : Tx K mg)  : Q_m_draw P w K mg base := by
  refine fng_of T.d_m_draw (fun _ _ _ _ _ _ us hl => match us, hl with | [_, _], _ => rfl) fun f fd F => fn_d F sc_m_draw R2.len ?_
  rintro cdv A outer s G0 H0 E ss W r hr ⟨sc, k, rfl, hpre, rfl⟩
  have nd := sc_m_draw.nd
  have hpre : 0 ≤ k ∧ k ≤ 100000 := hpre
  refine d_res (W' := R0) (fun _ _ _ _ => trivial) ?_
  refine d_let (i := 2) (α := Int) nd de_int fun cell hcell => ?_
  refine d_if1s (i := 2) (y0 := cell) nd rfl (dt_ne (α := (List Int)) hr (dv 0 rfl) (te_n (tn_nil (α := Int) rfl))) (fun hb1 => (de_ix (ts_d (dv 0 rfl)) (de_mod (dv 1 rfl) (te_len T.len (ts_d (dv 0 rfl))) ?s1) ?s2)) fun cell1 hcell1 => ?_
  case s1 =>
    have h1 : sc ≠ [] := by
      intro q
      rw [q] at hb1
      cases hb1
    have h1 := List.length_pos_iff.mpr h1
    omega
  case s2 =>
    have h1 : sc ≠ [] := by
      intro q
      rw [q] at hb1
      cases hb1
    have h1 := List.length_pos_iff.mpr h1
    have h2 := Int.emod_nonneg k (b := (sc.length : Int)) (by omega)
    have h3 := Int.emod_lt_of_pos k (b := (sc.length : Int)) (by omega)
    omega
  refine d_let (i := 3) (α := Int) nd (de_add (de_add (de_mod (dv 2 rfl) de_int ?s3) (de_mul de_int (dv 1 rfl) ?s4)) de_int) fun number hnumber => ?_
  case s3 =>
    first | omega | (simp only [mem_rng] at *; omega) | (simp only [List.length_cons, List.length_nil]; omega) | (simp; done)
  case s4 =>
    first | exact .inl ⟨by omega, by omega⟩ | exact .inr ⟨by omega, by omega⟩ | exact .inl ⟨by decide, by decide⟩ | exact .inr ⟨by decide, by decide⟩
  refine d_ret (s := En (((((number * number) % (1000000007 : Int)) * number) % (998244353 : Int)) / (11 : Int))) (de_fdiv (de_mod (de_mul (de_mod (de_mul (dv 3 rfl) (dv 3 rfl) ?s5) de_int ?s6) (dv 3 rfl) ?s7) de_int ?s8) de_int ?s9) fun v G' H' g r => ⟨G', g, ?fin⟩
  case s5 =>
    first | exact .inl ⟨by omega, by omega⟩ | exact .inr ⟨by omega, by omega⟩ | exact .inl ⟨by decide, by decide⟩ | exact .inr ⟨by decide, by decide⟩
  case s6 =>
    first | omega | (simp only [mem_rng] at *; omega) | (simp only [List.length_cons, List.length_nil]; omega) | (simp; done)
  case s7 =>
    have h1 := Int.emod_nonneg (number * number) (b := 1000000007) (by decide)
    have h2 := Int.emod_lt_of_pos (number * number) (b := 1000000007) (by decide)
    exact .inl ⟨by omega, by omega⟩
  case s8 =>
    first | omega | (simp only [mem_rng] at *; omega) | (simp only [List.length_cons, List.length_nil]; omega) | (simp; done)
  case s9 =>
    exact ⟨by omega, by omega⟩
  case fin =>
    have e : m_draw sc k = (((((number * number) % (1000000007 : Int)) * number) % (998244353 : Int)) / (11 : Int)) := by
      subst_vars
      first | rfl | (simp only [m_draw, cond_true, cond_false]; done) | (simp [m_draw]; done)
    rw [e]
    exact r
abbrev pre_m_pairs : (List Int) → Int → Prop := fun sc many => 1 ≤ many ∧ many ≤ 12
abbrev Q_m_pairs (P : Program) (w : World) (K : PySem.W.Frag) (mg : Str → Option Value) (base : Heap) : Prop := FnG P w K mg base 3 "_law_pairs" ["_law_script", "_law_many"] (R2 pre_m_pairs m_pairs)
abbrev nn_m_pairs : List Str := ["_law_script", "_law_many", "_law_way", "_law_ring", "_law_found", "_law_k", "_law_number_here", "_law_base", "_law_tied", "_law_beneath", "_law_row", "_law_j"]
theorem sc_m_pairs : FnScope nn_m_pairs ["_law_script", "_law_many"] (defScope s_law_pairs) := ⟨rfl, rfl, rfl, by decide +kernel, rfl, by decide +kernel, by decide +kernel⟩
theorem ok_m_pairs (T : Tx K mg) (H_m_draw : Q_m_draw P w K mg base) : Q_m_pairs P w K mg base := by
  refine fng_of T.d_m_pairs (fun _ _ _ _ _ _ us hl => match us, hl with | [_, _], _ => rfl) fun f fd F => fn_d F sc_m_pairs R2.len ?_
  rintro cdv A outer s G0 H0 E ss W r hr ⟨sc, many, rfl, hpre, rfl⟩
  have nd := sc_m_pairs.nd
  have hpre : 1 ≤ many ∧ many ≤ 12 := hpre
  refine d_res (W' := R0) (fun _ _ _ _ => trivial) ?_
  refine d_let (i := 2) (α := Int) nd (de_mod (call2 H_m_draw hr (dv 0 rfl) de_int ?s1) de_int ?s2) fun way hway => ?_
  case s1 =>
    first | trivial | (dsimp only [pre_m_draw]; omega) | (simp only [mem_rng] at *; dsimp only [pre_m_draw]; omega)
  case s2 =>
    first | omega | (simp only [mem_rng] at *; omega) | (simp only [List.length_cons, List.length_nil]; omega) | (simp; done)
  refine d_let (i := 3) (α := Int) nd (de_add de_int (de_mod (de_fdiv (call2 H_m_draw hr (dv 0 rfl) de_int ?s3) de_int ?s4) de_int ?s5)) fun ring hring => ?_
  case s3 =>
    first | trivial | (dsimp only [pre_m_draw]; omega) | (simp only [mem_rng] at *; dsimp only [pre_m_draw]; omega)
  case s4 =>
    exact ⟨by omega, by omega⟩
  case s5 =>
    first | omega | (simp only [mem_rng] at *; omega) | (simp only [List.length_cons, List.length_nil]; omega) | (simp; done)
  refine d_letN (an_set (i := 4) nd (tn_nil (α := (Int × Int)) rfl)) fun found hfound => ?_
  refine d_fold (js := [5]) (rng (1 : Int) many) (fun z => En z) (m_pairs_step1 sc way ring) (fun (pre : List Int) (b : (List (Int × Int))) => b.length ≤ 12 * pre.length) (fun bfound => R0) (fun bfound => [some (En sc), some (En many), some (En way), some (En ring), some (En bfound), none, none, none, none, none, none, none]) (fun bfound xk => [some (En sc), some (En many), some (En way), some (En ring), some (En bfound), some (En xk), none, none, none, none, none, none]) found PassesOwn.never rfl (dig_rng2 T.range de_int (dv 1 rfl) ?s6) (fun G H σ c => ⟨c.s, c.w, c.e.weak (.same (.same (.same (.same (.same (.same (.same (.same (.same (.same (.same (.same .nil))))))))))))⟩) ?iv0_1 (fun bfound xk hx => (dg_name (i := 5) nd)) (fun G2_1 bk pre xk post bfound hxs hb hiv hG hW2 => ?turn1) (fun found2 hfound2 hiv1 => ?after1)
  case s6 =>
    first | omega | (simp only [mem_rng] at *; omega) | (simp only [List.length_cons, List.length_nil]; omega) | (simp; done)
  case iv0_1 => rw [hfound]; exact Nat.zero_le _
  case turn1 =>
    have hx1 : xk ∈ (rng (1 : Int) many) := by rw [hxs]; exact List.mem_append_right _ List.mem_cons_self
    have hx := hx1
    have hk := mem_rng.mp hx
    have hk1 : 1 ≤ xk ∧ xk ≤ 11 := by omega
    have hw : 0 ≤ way ∧ way < 4 := by omega
    have hpl : pre.length ≤ 11 := by
      have q := congrArg List.length hxs
      rw [rng_len, List.length_append, List.length_cons] at q
      omega
    refine d_let (i := 6) (α := Int) nd (call2 H_m_draw hr (dv 0 rfl) (de_add de_int (dv 5 rfl)) ?s7) fun number hnumber => ?_
    case s7 =>
      first | trivial | (dsimp only [pre_m_draw]; omega) | (simp only [mem_rng] at *; dsimp only [pre_m_draw]; omega)
    refine d_let (i := 7) (α := Int) nd (de_mod (dv 6 rfl) (dv 5 rfl) ?s8) fun baseV hbaseV => ?_
    case s8 =>
      first | omega | (simp only [mem_rng] at *; omega) | (simp only [List.length_cons, List.length_nil]; omega) | (simp; done)
    refine d_letN (i := 8) (xs := (List.filter (fun yj => (memB ((imin yj baseV), (imax yj baseV)) bfound)) (rng 0 xk))) ?an9 fun tied htied => ?_
    case an9 =>
      refine (an_lcf (i := 8) [("_law_j", 11)] (rng 0 xk) (fun yj => (memB ((imin yj baseV), (imax yj baseV)) bfound)) (fun yj => [some (En sc), some (En many), some (En way), some (En ring), some (En bfound), some (En xk), some (En number), some (En baseV), none, none, none, some (En yj)]) rfl nd (dih_g (dig_rng1 T.range (dv 5 rfl) ?s9)) (blkOk_by (N := nn_m_pairs) (sc := defScope s_law_pairs) (by decide +kernel)) (fun yj hyj _ _ _ _ _ => (dg_name (i := 11) nd)) (fun yj hyj _ _ _ _ _ => dts_one (dt_in (α := (Int × Int)) hr (de_pair (de_min2 T.min rfl (dv 11 rfl) (dv 7 rfl)) (de_max2 T.max rfl (dv 11 rfl) (dv 7 rfl))) (ts_d (dv 4 rfl)))) (fun yj hyj hb1 _ _ _ _ _ => (dv 11 rfl)))
      case s9 =>
        first | omega | (simp only [mem_rng] at *; omega) | (simp only [List.length_cons, List.length_nil]; omega) | (simp; done)
    have ltied : tied.length ≤ 11 := by
      rw [htied]
      exact filt_len _ hk1.2
    refine d_letN (an_set (i := 9) nd (tn_cat (ts_n (tn_1 (dv 7 rfl))) (ts_n (tn_lcf [("_law_j", 11)] tied (fun yj1 => (eqB (Builtin.bitAnd (number / 2 ^ (((4 : Int) + yj1)).toNat) (1 : Int)) (1 : Int))) (fun yj1 => [some (En sc), some (En many), some (En way), some (En ring), some (En bfound), some (En xk), some (En number), some (En baseV), some (En tied), none, none, some (En yj1)]) rfl nd (dih_g (ti_list (dv 8 rfl))) (blkOk_by (N := nn_m_pairs) (sc := defScope s_law_pairs) (by decide +kernel)) (fun yj1 hyj1 _ _ _ _ _ => (dg_name (i := 11) nd)) (fun yj1 hyj1 _ _ _ _ _ => dts_one (dt_eq (α := Int) hr (de_and2 (de_shr (dv 6 rfl) (de_add de_int (dv 11 rfl)) ?s10) de_int) de_int)) (fun yj1 hyj1 hb2 _ _ _ _ _ => (dv 11 rfl)))) ?s11)) fun beneath hbeneath => ?_
    case s10 =>
      have q : yj1 ∈ rng 0 xk := by
        rw [htied] at hyj1
        exact (List.mem_filter.mp hyj1).1
      have := mem_rng.mp q
      omega
    case s11 =>
      have q := List.length_filter_le (fun yj1 => (eqB (Builtin.bitAnd (number / 2 ^ (((4 : Int) + yj1)).toNat) (1 : Int)) (1 : Int))) tied
      rw [List.length_singleton]
      omega
    have lbeneath : beneath.length ≤ 12 := by
      rw [hbeneath]
      exact bene_len _ _ ltied
    refine d_let (i := 10) (α := (List Int)) nd (de_ix (ts_n (tn_k (.cons (te_n (tn_lcf [("_law_j", 11)] (rng 0 xk) (fun yj2 => (eqB (Builtin.bitAnd (number / 2 ^ (((4 : Int) + yj2)).toNat) (1 : Int)) (1 : Int))) (fun yj2 => [some (En sc), some (En many), some (En way), some (En ring), some (En bfound), some (En xk), some (En number), some (En baseV), some (En tied), some (En beneath), none, some (En yj2)]) rfl nd (dih_g (dig_rng1 T.range (dv 5 rfl) ?s12)) (blkOk_by (N := nn_m_pairs) (sc := defScope s_law_pairs) (by decide +kernel)) (fun yj2 hyj2 _ _ _ _ _ => (dg_name (i := 11) nd)) (fun yj2 hyj2 _ _ _ _ _ => dts_one (dt_eq (α := Int) hr (de_and2 (de_shr (dv 6 rfl) (de_add de_int (dv 11 rfl)) ?s13) de_int) de_int)) (fun yj2 hyj2 hb3 _ _ _ _ _ => (dv 11 rfl)))) (.cons (dv 9 rfl) (.cons (dv 9 rfl) (.cons (te_n (tn_sl (ts_n (tn_1 (dv 7 rfl))) do_no (do_so (de_mod (de_fdiv (dv 6 rfl) de_int ?s14) de_int ?s15)))) .nil (by rfl)) (by rfl)) (by rfl)) (by rfl)))) (dv 2 rfl) ?s16) fun row hrow => ?_
    case s12 =>
      first | omega | (simp only [mem_rng] at *; omega) | (simp only [List.length_cons, List.length_nil]; omega) | (simp; done)
    case s13 =>
      first | omega | (simp only [mem_rng] at *; omega) | (simp only [List.length_cons, List.length_nil]; omega) | (simp; done)
    case s14 =>
      exact ⟨by omega, by omega⟩
    case s15 =>
      first | omega | (simp only [mem_rng] at *; omega) | (simp only [List.length_cons, List.length_nil]; omega) | (simp; done)
    case s16 =>
      first | omega | (simp only [mem_rng] at *; omega) | (simp only [List.length_cons, List.length_nil]; omega) | (simp; done)
    have lrow : row.length ≤ 12 := by
      rw [hrow]
      exact row_len hw (Nat.le_trans (filt_len _ hk1.2) (by decide)) lbeneath (Nat.le_trans (cut_len _ _ _) (by show 1 ≤ 12; decide))
    refine d_if1s (i := 10) (y0 := row) nd rfl (dt_w (dw_and (dt_eq (α := Int) hr (dv 2 rfl) de_int) (fun hb4 => (dw_and1 (dt_lt (dv 5 rfl) (dv 3 rfl)))))) (fun hb5 => (te_n (tn_cat (ts_n (tn_1 (de_sub (dv 5 rfl) de_int))) (ts_n (tn_rep (tn_1 de_int) (de_intb T.int (de_eq (α := Int) hr (dv 5 rfl) (de_sub (dv 3 rfl) de_int))) ?s17 ?s18 ?s19)) ?s20))) fun row1 hrow1 => ?_
    case s17 =>
      have := b2n_01 (eqB xk (ring - (1 : Int)))
      omega
    case s18 =>
      show 1 ≤ 10
      decide
    case s19 =>
      have := b2n_01 (eqB xk (ring - (1 : Int)))
      omega
    case s20 =>
      rw [List.length_singleton, rep_len]
      have := b2n_01 (eqB xk (ring - (1 : Int)))
      omega
    have lrow1 : row1.length ≤ 12 := by
      rw [hrow1]
      exact row1_len lrow
    refine d_letN (an_set (i := 4) nd (tn_cat (ts_d (dv 4 rfl)) (ts_n (tn_lc0 [("_law_j", 11)] row1 (fun yj3 => En yj3) (fun yj3 => (yj3, xk)) (fun yj3 => [some (En sc), some (En many), some (En way), some (En ring), some (En bfound), some (En xk), some (En number), some (En baseV), some (En tied), some (En beneath), some (En row1), some (En yj3)]) rfl nd (dih_g (ti_list (dv 10 rfl))) (blkOk_by (N := nn_m_pairs) (sc := defScope s_law_pairs) (by decide +kernel)) (fun yj3 hyj3 _ _ _ _ _ => (dg_name (i := 11) nd)) (fun yj3 hyj3 _ _ _ _ _ => (de_pair (dv 11 rfl) (dv 5 rfl))))) ?s21)) fun found1 hfound1 => ?_
    case s21 =>
      rw [List.length_map]
      omega
    refine d_nil fun σ H p => ⟨?iv9, ?at9⟩
    case iv9 =>
      rw [List.length_append, List.length_singleton]
      have q := step_len (sc := sc) (ring := ring) (b := bfound) hk1.2 hw
      omega
    case at9 =>
      have e : m_pairs_step1 sc way ring bfound xk = found1 := by
        subst_vars
        first | rfl | (simp only [m_pairs_step1, cond_true, cond_false]; done) | (simp [m_pairs_step1]; done)
      show At G0 H0 G2_1 R0 [some (En sc), some (En many), some (En way), some (En ring), some (En (m_pairs_step1 sc way ring bfound xk)), none, none, none, none, none, none, none] σ H
      rw [e]
      exact At.weak (.same (.same (.same (.same (.same (.drop (.drop (.drop (.drop (.drop (.drop (.same .nil)))))))))))) p
  case after1 =>
    refine d_ret (s := En found2) (dv 4 rfl) fun v G' H' g r => ⟨G', g, ?fin⟩
    case fin =>
      have e : m_pairs sc many = found2 := by
        subst_vars
        first | rfl | (simp only [m_pairs, cond_true, cond_false]; done) | (simp [m_pairs]; done)
      rw [e]
      exact r
abbrev pre_m_drawn : (List Int) → Int → Prop := fun sc many => 1 ≤ many ∧ many ≤ 12
abbrev Q_m_drawn (P : Program) (w : World) (K : PySem.W.Frag) (mg : Str → Option Value) (base : Heap) : Prop := FnG P w K mg base 4 "_law_drawn" ["_law_script", "_law_many"] (R2 pre_m_drawn m_drawn)
abbrev nn_m_drawn : List Str := ["_law_script", "_law_many", "_law_order", "_law_found", "_law_one", "_law_other", "_law_number_here", "_law_k"]
theorem sc_m_drawn : FnScope nn_m_drawn ["_law_script", "_law_many"] (defScope s_law_drawn) := ⟨rfl, rfl, rfl, by decide +kernel, rfl, by decide +kernel, by decide +kernel⟩
theorem ok_m_drawn (T : Tx K mg) (H_m_pairs : Q_m_pairs P w K mg base) (H_m_draw : Q_m_draw P w K mg base) : Q_m_drawn P w K mg base := by
  refine fng_of T.d_m_drawn (fun _ _ _ _ _ _ us hl => match us, hl with | [_, _], _ => rfl) fun f fd F => fn_d F sc_m_drawn R2.len ?_
  rintro cdv A outer s G0 H0 E ss W r hr ⟨sc, many, rfl, hpre, rfl⟩
  have nd := sc_m_drawn.nd
  have hpre : 1 ≤ many ∧ many ≤ 12 := hpre
  refine d_res (W' := R0) (fun _ _ _ _ => trivial) ?_
  refine d_letN (i := 2) (xs := (List.map (fun ynumber => ynumber.2) (srt (List.map (fun yk => ((m_draw sc ((20 : Int) + yk)), yk)) (rng 0 many))))) ?an9 fun order horder => ?_
  case an9 =>
    refine (an_lc0 (i := 2) [("_law_number_here", 6), ("_law_k", 7)] (srt (List.map (fun yk => ((m_draw sc ((20 : Int) + yk)), yk)) (rng 0 many))) (fun ynumber => En ynumber) (fun ynumber => ynumber.2) (fun ynumber => [some (En sc), some (En many), none, none, none, none, some (En ynumber.1), some (En ynumber.2)]) rfl nd (dih_g (ti_list (te_n (dn_sortT (α := (Int × Int)) hr T.sorted (ts_n (tn_lc0 [("_law_k", 7)] (rng 0 many) (fun yk => En yk) (fun yk => ((m_draw sc ((20 : Int) + yk)), yk)) (fun yk => [some (En sc), some (En many), none, none, none, none, none, some (En yk)]) rfl nd (dih_g (dig_rng1 T.range (dv 1 rfl) ?s1)) (blkOk_by (N := nn_m_drawn) (sc := defScope s_law_drawn) (by decide +kernel)) (fun yk hyk _ _ _ _ _ => (dg_name (i := 7) nd)) (fun yk hyk _ _ _ _ _ => (de_pair (call2 H_m_draw hr (dv 0 rfl) (de_add de_int (dv 7 rfl)) ?s2) (dv 7 rfl))))))))) (blkOk_by (N := nn_m_drawn) (sc := defScope s_law_drawn) (by decide +kernel)) (fun ynumber hynumber _ _ _ _ _ => (dg_tup rfl (dgs_cons (dg_name (i := 6) nd) (dgs_cons (dg_name (i := 7) nd) dgs_nil)))) (fun ynumber hynumber _ _ _ _ _ => (dv 7 rfl)))
    case s1 =>
      first | omega | (simp only [mem_rng] at *; omega) | (simp only [List.length_cons, List.length_nil]; omega) | (simp; done)
    case s2 =>
      first | trivial | (dsimp only [pre_m_draw]; omega) | (simp only [mem_rng] at *; dsimp only [pre_m_draw]; omega)
  refine d_ownN (an_set (i := 3) nd (tn_nil (α := (Int × Int)) rfl)) fun a_found hH_found hG_found hne_found => ?_
  refine d_fold (js := [4, 5]) (m_pairs sc many) (fun z => En z) (m_drawn_step1 order) (fun (pre : List (Int × Int)) (b : (List (Int × Int))) => b.length ≤ pre.length) (fun bfound => (R0.and (Own a_found ((bfound).map Datum.toD)))) (fun bfound => [some (En sc), some (En many), some (En order), some (.v (.ref a_found)), none, none, none, none]) (fun bfound xone => [some (En sc), some (En many), some (En order), some (.v (.ref a_found)), some (En xone.1), some (En xone.2), none, none]) ([] : (List (Int × Int))) PassesOwn.never rfl (ti_list (call2 H_m_pairs hr (dv 0 rfl) (dv 1 rfl) ?s3)) (fun G H σ c => ⟨c.s, c.w, c.e.weak (.same (.same (.same (.same (.same (.same (.same (.same .nil))))))))⟩) ?iv0_1 (fun bfound xone hx => (dg_tup rfl (dgs_cons (dg_name (i := 4) nd) (dgs_cons (dg_name (i := 5) nd) dgs_nil)))) (fun G2_1 bk pre xone post bfound hxs hb hiv hG hW2 => ?turn1) (fun found1 hfound1 hiv1 => ?after1)
  case s3 =>
    first | trivial | (dsimp only [pre_m_pairs]; omega) | (simp only [mem_rng] at *; dsimp only [pre_m_pairs]; omega)
  case iv0_1 => exact Nat.zero_le _
  case turn1 =>
    have hx1 : xone ∈ (m_pairs sc many) := by rw [hxs]; exact List.mem_append_right _ List.mem_cons_self
    have hx := hx1
    have hGo_1_a_found : G2_1 a_found = none := by obtain ⟨H2, _, h⟩ := hW2; exact h.2.1
    refine d_appT (i := 3) (α := (Int × Int)) (y := ((imin (ixD order xone.1) (ixD order xone.2)), (imax (ixD order xone.1) (ixD order xone.2)))) (ys := bfound) rfl hH_found hGo_1_a_found frm_R0 (de_pair (de_min2 T.min rfl (de_ix (ts_d (dv 2 rfl)) (dv 4 rfl) ?s4) (de_ix (ts_d (dv 2 rfl)) (dv 5 rfl) ?s5)) (de_max2 T.max rfl (de_ix (ts_d (dv 2 rfl)) (dv 4 rfl) ?s6) (de_ix (ts_d (dv 2 rfl)) (dv 5 rfl) ?s7))) ?s8 ?_
    case s4 =>
      have q := (pairs_good (sc := sc) hpre).1.1 xone hx
      have ol : order.length = many.toNat := by
        rw [horder]
        exact order_len sc many
      omega
    case s5 =>
      have q := (pairs_good (sc := sc) hpre).1.1 xone hx
      have ol : order.length = many.toNat := by
        rw [horder]
        exact order_len sc many
      omega
    case s6 =>
      have q := (pairs_good (sc := sc) hpre).1.1 xone hx
      have ol : order.length = many.toNat := by
        rw [horder]
        exact order_len sc many
      omega
    case s7 =>
      have q := (pairs_good (sc := sc) hpre).1.1 xone hx
      have ol : order.length = many.toNat := by
        rw [horder]
        exact order_len sc many
      omega
    case s8 =>
      have q := congrArg List.length hxs
      rw [List.length_append, List.length_cons] at q
      have := (pairs_good (sc := sc) hpre).2
      omega
    refine d_nil fun σ H p => ⟨?iv9, ?at9⟩
    case iv9 =>
      show (bfound ++ [_]).length ≤ _
      rw [List.length_append, List.length_append, List.length_singleton, List.length_singleton]
      omega
    case at9 =>
      have e : m_drawn_step1 order bfound xone = (bfound ++ [((imin (ixD order xone.1) (ixD order xone.2)), (imax (ixD order xone.1) (ixD order xone.2)))]) := by
        subst_vars
        first | rfl | (simp only [m_drawn_step1, cond_true, cond_false]; done) | (simp [m_drawn_step1]; done)
      show At G0 H0 G2_1 (R0.and (Own a_found (((m_drawn_step1 order bfound xone)).map Datum.toD))) [some (En sc), some (En many), some (En order), some (.v (.ref a_found)), none, none, none, none] σ H
      rw [e]
      exact At.weak (.same (.same (.same (.same (.drop (.drop (.same (.same .nil)))))))) p
  case after1 =>
    refine d_frzT (i := 3) (ys := found1) rfl hH_found hG_found frz_R0 ?_
    refine d_ret (s := En found1) (dv 3 rfl) fun v G' H' g r => ⟨G', g, ?fin⟩
    case fin =>
      have e : m_drawn sc many = found1 := by
        subst_vars
        first | rfl | (simp only [m_drawn, cond_true, cond_false]; done) | (simp [m_drawn]; done)
      rw [e]
      exact r
abbrev pre_m_is_among : Int → Int → Int → Prop := fun thing least most => True
abbrev Q_m_is_among (P : Program) (w : World) (K : PySem.W.Frag) (mg : Str → Option Value) (base : Heap) : Prop := FnG P w K mg base 1 "is_among" ["thing", "least", "most"] (R3 pre_m_is_among m_is_among)
abbrev nn_m_is_among : List Str := ["thing", "least", "most"]
theorem sc_m_is_among : FnScope nn_m_is_among ["thing", "least", "most"] (defScope s_is_among) := ⟨rfl, rfl, rfl, by decide +kernel, rfl, by decide +kernel, by decide +kernel⟩
theorem ok_m_is_among (T : Tx K mg)  : Q_m_is_among P w K mg base := by
  refine fng_of T.d_m_is_among (fun _ _ _ _ _ _ us hl => match us, hl with | [_, _, _], _ => rfl) fun f fd F => fn_d F sc_m_is_among R3.len ?_
  rintro cdv A outer s G0 H0 E ss W r hr ⟨thing, least, most, rfl, hpre, rfl⟩
  have nd := sc_m_is_among.nd
  have hpre : True := hpre
  refine d_res (W' := R0) (fun _ _ _ _ => trivial) ?_
  refine d_ret (s := En (true && ((!false) && (decide (least ≤ thing) && decide (thing ≤ most))))) (de_and (de_isi (T := "int") T.isinstance (dv 0 rfl) (pe_bltn (by rfl) T.int (by decide +kernel) rfl) (k := true) (by rfl)) (fun hb1 => (de_and (de_not (de_isi (T := "bool") T.isinstance (dv 0 rfl) (pe_bltn (by rfl) T.bool (by decide +kernel) rfl) (k := false) (by rfl))) (fun hb2 => (de_one (de_le_le (dv 1 rfl) (dv 0 rfl) (dv 2 rfl))))))) fun v G' H' g r => ⟨G', g, ?fin⟩
  case fin =>
    have e : m_is_among thing least most = (true && ((!false) && (decide (least ≤ thing) && decide (thing ≤ most)))) := by
      subst_vars
      first | rfl | (simp only [m_is_among, cond_true, cond_false]; done) | (simp [m_is_among]; done)
    rw [e]
    exact r
abbrev pre_m_Web_many : WS → Prop := fun s0 => True
abbrev Q_m_Web_many (P : Program) (w : World) (K : PySem.W.Frag) (mg : Str → Option Value) (base : Heap) : Prop := MtG P w K mg base 1 (He.ga K "Web") "many" ["self"] (O0 (WebR (He.ga K "Web")) pre_m_Web_many m_Web_many)
abbrev nn_m_Web_many : List Str := ["self"]
theorem sc_m_Web_many : FnScope nn_m_Web_many ["self"] (defScope s_Web_many) := ⟨rfl, rfl, rfl, by decide +kernel, rfl, by decide +kernel, by decide +kernel⟩
theorem ok_m_Web_many (T : Tx K mg)  : Q_m_Web_many P w K mg base := by
  refine mtg_of T.d_m_Web_many (fun _ _ _ _ _ _ us hl => match us, hl with | [_], _ => rfl) fun f fd F => fn_d F sc_m_Web_many O0.len ?_
  rintro cdv A outer s G0 H0 E ss W r hr ⟨p0, s0,  rfl, rfl, hpre, rfl⟩
  have nd := sc_m_Web_many.nd
  have hpre : True := hpre
  refine d_res (W' := (R0.and (WebR (He.ga K "Web") p0 s0))) (fun _ _ _ h => ⟨trivial, h⟩) ?_
  refine d_ret (s := En s0.n) (de_att (s := En s0.n) T.cl_Web T.na_Web_size (dv 0 rfl) (fun _ _ _ h => h.2.1)) fun v G' H' g r => ⟨G', g, ?fin⟩
  case fin =>
    have e : m_Web_many s0 = s0.n := by
      subst_vars
      first | rfl | (simp only [m_Web_many, cond_true, cond_false]; done) | (simp [m_Web_many]; done)
    rw [e]
    exact r
abbrev pre_m_Web_need_point : WS → Int → Prop := fun s0 point => 0 ≤ point ∧ point < s0.n
abbrev Q_m_Web_need_point (P : Program) (w : World) (K : PySem.W.Frag) (mg : Str → Option Value) (base : Heap) : Prop := MtG P w K mg base 2 (He.ga K "Web") "need_point" ["self", "point"] (O1 (WebR (He.ga K "Web")) pre_m_Web_need_point m_Web_need_point)
abbrev nn_m_Web_need_point : List Str := ["self", "point"]
theorem sc_m_Web_need_point : FnScope nn_m_Web_need_point ["self", "point"] (defScope s_Web_need_point) := ⟨rfl, rfl, rfl, by decide +kernel, rfl, by decide +kernel, by decide +kernel⟩
theorem ok_m_Web_need_point (T : Tx K mg) (H_m_is_among : Q_m_is_among P w K mg base) : Q_m_Web_need_point P w K mg base := by
  refine mtg_of T.d_m_Web_need_point (fun _ _ _ _ _ _ us hl => match us, hl with | [_, _], _ => rfl) fun f fd F => fn_d F sc_m_Web_need_point O1.len ?_
  rintro cdv A outer s G0 H0 E ss W r hr ⟨p0, s0, point,  rfl, rfl, hpre, rfl⟩
  have nd := sc_m_Web_need_point.nd
  have hpre : 0 ≤ point ∧ point < s0.n := hpre
  refine d_res (W' := (R0.and (WebR (He.ga K "Web") p0 s0))) (fun _ _ _ h => ⟨trivial, h⟩) ?_
  refine d_ifr (dt_not (dt_val (call3 H_m_is_among hr (dv 1 rfl) de_int (de_sub (de_att (s := En s0.n) T.cl_Web T.na_Web_size (dv 0 rfl) (fun _ _ _ h => h.2.1)) de_int) ?s1))) (fun hb1 => ?b_hb1) (fun hb1 => ?b_hb1n)
  case s1 =>
    first | trivial | (dsimp only [pre_m_is_among]; omega) | (simp only [mem_rng] at *; dsimp only [pre_m_is_among]; omega)
  case b_hb1 =>
    exfalso
    revert hb1
    simp [m_is_among]
    omega
  exact d_nil fun σ H ⟨G, g, q, c⟩ => ⟨G, g, .non⟩
abbrev pre_m_Web_pair : WS → Int → Int → Prop := fun s0 one other => 0 ≤ one ∧ one < s0.n ∧ 0 ≤ other ∧ other < s0.n
abbrev Q_m_Web_pair (P : Program) (w : World) (K : PySem.W.Frag) (mg : Str → Option Value) (base : Heap) : Prop := MtG P w K mg base 3 (He.ga K "Web") "pair" ["self", "one", "other"] (O2 (WebR (He.ga K "Web")) pre_m_Web_pair m_Web_pair)
abbrev nn_m_Web_pair : List Str := ["self", "one", "other"]
theorem sc_m_Web_pair : FnScope nn_m_Web_pair ["self", "one", "other"] (defScope s_Web_pair) := ⟨rfl, rfl, rfl, by decide +kernel, rfl, by decide +kernel, by decide +kernel⟩
theorem ok_m_Web_pair (T : Tx K mg) (H_m_Web_need_point : Q_m_Web_need_point P w K mg base) : Q_m_Web_pair P w K mg base := by
  refine mtg_of T.d_m_Web_pair (fun _ _ _ _ _ _ us hl => match us, hl with | [_, _, _], _ => rfl) fun f fd F => fn_d F sc_m_Web_pair O2.len ?_
  rintro cdv A outer s G0 H0 E ss W r hr ⟨p0, s0, one, other,  rfl, rfl, hpre, rfl⟩
  have nd := sc_m_Web_pair.nd
  have hpre : 0 ≤ one ∧ one < s0.n ∧ 0 ≤ other ∧ other < s0.n := hpre
  refine d_res (W' := (R0.and (WebR (He.ga K "Web") p0 s0))) (fun _ _ _ h => ⟨trivial, h⟩) ?_
  refine d_drop (om1 H_m_Web_need_point T.cl_Web (web_is _) hr (dv 0 rfl) (fun _ _ _ h => h.2) (dv 1 rfl) ?s1) ?_
  case s1 =>
    first | trivial | (dsimp only [pre_m_Web_need_point]; omega) | (simp only [mem_rng] at *; dsimp only [pre_m_Web_need_point]; omega)
  refine d_drop (om1 H_m_Web_need_point T.cl_Web (web_is _) hr (dv 0 rfl) (fun _ _ _ h => h.2) (dv 2 rfl) ?s2) ?_
  case s2 =>
    first | trivial | (dsimp only [pre_m_Web_need_point]; omega) | (simp only [mem_rng] at *; dsimp only [pre_m_Web_need_point]; omega)
  refine d_ret (s := En ((imin one other), (imax one other))) (de_pair (de_min2 T.min rfl (dv 1 rfl) (dv 2 rfl)) (de_max2 T.max rfl (dv 1 rfl) (dv 2 rfl))) fun v G' H' g r => ⟨G', g, ?fin⟩
  case fin =>
    have e : m_Web_pair s0 one other = ((imin one other), (imax one other)) := by
      subst_vars
      first | rfl | (simp only [m_Web_pair, cond_true, cond_false]; done) | (simp [m_Web_pair]; done)
    rw [e]
    exact r
/-! by hand: Web(..), tie, untie -/
abbrev Q_m_Web_init (P : Program) (w : World) (K : PySem.W.Frag) (mg : Str → Option Value) (base : Heap) : Prop := MkM P w K mg base 2 "Web" (He.ga K "Web") ["self", "many"] (R_Web_init (He.ga K "Web"))
theorem sc_m_Web_init : FnScope ["self", "many"] ["self", "many"] (defScope s_Web__init_) := ⟨rfl, rfl, rfl, by decide +kernel, rfl, by decide +kernel, by decide +kernel⟩
theorem ok_m_Web_init (T : Tx K mg) (H_m_is_among : Q_m_is_among P w K mg base) : Q_m_Web_init P w K mg base := by
  obtain ⟨f, fd, F, M⟩ := T.d_Web__init_
  refine ⟨f, fd, M, T.g_Web, F.bindsN fun _ _ _ _ _ _ us hl => match us, hl with | [_, _], _ => rfl, fn_m F sc_m_Web_init (fun ss W ds Post ⟨_, _, e, _⟩ => by rw [e]; rfl) ?_⟩
  rintro cdv A outer s G0 H0 E ss W ds Post hr ⟨p, many, rfl, rfl, hpre, rfl, rfl⟩ hd
  refine d_res (W' := R0.and (InsD (He.ga K "Web") p [])) (fun _ _ _ h => ⟨trivial, insD_of h.1⟩) ?_
  refine d_ifr (dt_not (dt_val (call3 H_m_is_among hr (dv 1 rfl) de_int (de_gint T.c_MOST_POINTS) trivial))) (fun h => ?a) (fun h => ?b)
  case a =>
    exfalso
    revert h
    simp [m_is_among]
    omega
  case b =>
    have h0 : cut [p] H0 p = none := cut_in List.mem_cons_self
    refine d_att T.cl_Web T.na_Web_size frm_R0 h0 (dv 0 rfl) (dv 1 rfl) ?_
    refine d_attE T.cl_Web T.na_Web_pairs (fun _ => frm_R0) h0 (fun _ => dv 0 rfl) (hl := by show (1 : Nat) < 1000; decide) fun d hd nd => ?_
    refine d_nil fun σ H ⟨G, g, q, c⟩ => ⟨[d], _, _, G, ⟨d, rfl, rfl, rfl, nd⟩, fun a ha => ?_, g, ⟨c.w.1.2, c.w.2⟩, .non⟩
    rw [List.mem_singleton.mp ha]
    rw [cut_ne fun z => nd (List.mem_singleton.mp z)] at hd
    exact hd

abbrev Q_m_Web_tie (P : Program) (w : World) (K : PySem.W.Frag) (mg : Str → Option Value) (base : Heap) : Prop := MtM P w K mg base 4 (He.ga K "Web") "tie" ["self", "one", "other"] (R_Web_tie (He.ga K "Web"))
theorem sc_m_Web_tie : FnScope ["self", "one", "other", "pair"] ["self", "one", "other"] (defScope s_Web_tie) := ⟨rfl, rfl, rfl, by decide +kernel, rfl, by decide +kernel, by decide +kernel⟩
theorem ok_m_Web_tie (T : Tx K mg) (H_m_Web_pair : Q_m_Web_pair P w K mg base) : Q_m_Web_tie P w K mg base := by
  obtain ⟨f, fd, F, M⟩ := T.d_m_Web_tie
  refine ⟨f, fd, M, F.bindsN fun _ _ _ _ _ _ us hl => match us, hl with | [_, _, _], _ => rfl, fn_m F sc_m_Web_tie (fun ss W ds Post ⟨_, _, _, _, e, _⟩ => by rw [e]; rfl) ?_⟩
  rintro cdv A outer s G0 H0 E ss W ds Post hr ⟨p, s0, one, other, rfl, rfl, hpre, rfl, rfl⟩ hd
  have nd := sc_m_Web_tie.nd
  have h0 : cut [s0.d] H0 s0.d = none := cut_in List.mem_cons_self
  refine d_let (i := 3) nd (om2 H_m_Web_pair T.cl_Web (web_is _) hr (dv 0 rfl) (fun _ _ _ h => h) (dv 1 rfl) (dv 2 rfl) ⟨hpre.1, hpre.2.1, hpre.2.2.1, hpre.2.2.2.1⟩) fun pair hpair => ?_
  refine d_ifr (dt_w (dw_or (dt_eq (α := Int) hr (dv 1 rfl) (dv 2 rfl)) fun _ => dw_or1 (dt_dinT (ps := s0.ps) hr (dv 3 rfl) (de_att (s := .v (.ref s0.d)) T.cl_Web T.na_Web_pairs (dv 0 rfl) (fun _ _ _ h => h.1)) (fun _ _ _ h => h.2.2)))) (fun h => ?a) (fun h => ?b)
  case a =>
    exfalso
    rw [eqB_false.mpr hpre.2.2.2.2.1, hpair, show m_Web_pair s0 one other = pr one other from rfl, memB_false.mpr hpre.2.2.2.2.2.1] at h
    cases h
  case b =>
    refine d_fact (fun G H _ w => web_ne w) fun ne => ?_
    refine d_dput (A := WebI (He.ga K "Web") p s0) hr ?_ h0 ?_ hpre.2.2.2.2.2.2 (de_att (s := .v (.ref s0.d)) T.cl_Web T.na_Web_pairs (dv 0 rfl) (fun _ _ _ h => h.1)) (dv 3 rfl) de_bl ?_
    · exact frm_ins ne
    · rw [hpair]
      exact hpre.2.2.2.2.2.1
    · refine d_nil fun σ H ⟨G, g, q, c⟩ => ⟨[], _, _, G, ⟨rfl, rfl, rfl⟩, fun a ha => (by cases ha), g, ?_, .non⟩
      have e : pr one other = pair := hpair.symm
      rw [e]
      exact c.w

abbrev pre_m_Web_ties : WS → Prop := fun s0 => True
abbrev Q_m_Web_ties (P : Program) (w : World) (K : PySem.W.Frag) (mg : Str → Option Value) (base : Heap) : Prop := MtN P w K mg base 1 (He.ga K "Web") "ties" ["self"] (N0 (WebR (He.ga K "Web")) pre_m_Web_ties m_Web_ties)
abbrev nn_m_Web_ties : List Str := ["self"]
theorem sc_m_Web_ties : FnScope nn_m_Web_ties ["self"] (defScope s_Web_ties) := ⟨rfl, rfl, rfl, by decide +kernel, rfl, by decide +kernel, by decide +kernel⟩
theorem ok_m_Web_ties (T : Tx K mg)  : Q_m_Web_ties P w K mg base := by
  refine mtn_of T.d_m_Web_ties (fun _ _ _ _ _ _ us hl => match us, hl with | [_], _ => rfl) fun f fd F => fn_n F sc_m_Web_ties N0.len ?_
  rintro cdv A outer s G0 H0 E ss W r hr ⟨p0, s0,  rfl, rfl, hpre, rfl⟩
  have nd := sc_m_Web_ties.nd
  have hpre : True := hpre
  refine d_res (W' := (R0.and (WebR (He.ga K "Web") p0 s0))) (fun _ _ _ h => ⟨trivial, h⟩) ?_
  refine d_retN (ds := ((srt s0.ps)).map Datum.toD) (dn_sortT (α := (Int × Int)) hr T.sorted (ts_n (tn_keys (ps := s0.ps) rfl T.list (de_att (s := .v (.ref s0.d)) T.cl_Web T.na_Web_pairs (dv 0 rfl) (fun _ _ _ h => h.2.1)) (fun _ _ _ h => h.2.2.2)))) fun v H' g => ?fin
  case fin =>
    have e : m_Web_ties s0 = (srt s0.ps) := by
      subst_vars
      first | rfl | (simp only [m_Web_ties, cond_true, cond_false]; done) | (simp [m_Web_ties]; done)
    rw [e]
    exact g
abbrev pre_m_number_of : Str → Prop := fun word => word.length ≤ 1000000
abbrev Q_m_number_of (P : Program) (w : World) (K : PySem.W.Frag) (mg : Str → Option Value) (base : Heap) : Prop := FnG P w K mg base 1 "number_of" ["word"] (R1 pre_m_number_of m_number_of)
abbrev nn_m_number_of : List Str := ["word", "sign"]
theorem sc_m_number_of : FnScope nn_m_number_of ["word"] (defScope s_number_of) := ⟨rfl, rfl, rfl, by decide +kernel, rfl, by decide +kernel, by decide +kernel⟩
theorem ok_m_number_of (T : Tx K mg)  : Q_m_number_of P w K mg base := by
  refine fng_of T.d_m_number_of (fun _ _ _ _ _ _ us hl => match us, hl with | [_], _ => rfl) fun f fd F => fn_d F sc_m_number_of R1.len ?_
  rintro cdv A outer s G0 H0 E ss W r hr ⟨word, rfl, hpre, rfl⟩
  have nd := sc_m_number_of.nd
  have hpre : word.length ≤ 1000000 := hpre
  refine d_res (W' := R0) (fun _ _ _ _ => trivial) ?_
  refine d_ifr (dt_w (dw_or (dt_not (dt_le_le de_int (te_lenS T.len (dv 0 rfl) ?s1) (de_gint T.c_MOST_FIGURES))) (fun hb1 => (dw_or1 (dt_not (dt_val (de_all (bs := (List.map (fun ysign => (leS (Str.ofString "0") ysign && leS ysign (Str.ofString "9"))) (sgnS word))) T.all rfl (ts_n (tn_lc0 [("sign", 1)] (sgnS word) (fun ysign => En ysign) (fun ysign => (leS (Str.ofString "0") ysign && leS ysign (Str.ofString "9"))) (fun ysign => [some (En word), some (En ysign)]) rfl nd (dih_g (ti_str (dv 0 rfl) ?s2)) (blkOk_by (N := nn_m_number_of) (sc := defScope s_number_of) (by decide +kernel)) (fun ysign hysign _ _ _ _ _ => (dg_name (i := 1) nd)) (fun ysign hysign _ _ _ _ _ => (de_le_leS de_str (dv 1 rfl) de_str))))))))))) (fun hb3 => ?b_hb3) (fun hb3 => ?b_hb3n)
  case s1 =>
    exact hpre
  case s2 =>
    exact hpre
  case b_hb3 =>
    refine d_ret (s := En (none : (Option Int))) de_non fun v G' H' g r => ⟨G', g, ?fin⟩
    case fin =>
      have e : m_number_of word = (none : (Option Int)) := by
        subst_vars
        first | rfl | (simp only [m_number_of, hb3, cond_true, cond_false]; done) | (simp [m_number_of, hb3]; done)
      rw [e]
      exact r
  refine d_ifr (dt_w (dw_and (dt_eq (α := Str) hr (de_ixS (dv 0 rfl) de_int ?s3 ?s4) de_str) (fun hb4 => (dw_and1 (dt_ne (α := Str) hr (dv 0 rfl) de_str))))) (fun hb5 => ?b_hb5) (fun hb5 => ?b_hb5n)
  case s3 =>
    exact num_ix hb3
  case s4 =>
    exact hpre
  case b_hb5 =>
    refine d_ret (s := En (none : (Option Int))) de_non fun v G' H' g r => ⟨G', g, ?fin⟩
    case fin =>
      have e : m_number_of word = (none : (Option Int)) := by
        subst_vars
        first | rfl | (simp only [m_number_of, hb3, hb5, cond_true, cond_false]; done) | (unfold m_number_of; dsimp only; rw [hb3, hb5]; rfl) | (simp [m_number_of, hb3, hb5]; done)
      rw [e]
      exact r
  refine d_ret (s := En (some (intV word))) (te_some (de_intS T.int (dv 0 rfl) ?s5 ?s6)) fun v G' H' g r => ⟨G', g, ?fin⟩
  case s5 =>
    exact num_ok hb3
  case s6 =>
    exact num_short hb3
  case fin =>
    have e : m_number_of word = (some (intV word)) := by
      subst_vars
      first | rfl | (simp only [m_number_of, hb3, hb5, cond_true, cond_false]; done) | (unfold m_number_of; dsimp only; rw [hb3, hb5]; rfl) | (simp [m_number_of, hb3, hb5]; done)
    rw [e]
    exact r
abbrev pre_m_words_of : Str → Prop := fun line => line.length ≤ 1000000
abbrev Q_m_words_of (P : Program) (w : World) (K : PySem.W.Frag) (mg : Str → Option Value) (base : Heap) : Prop := FnG P w K mg base 1 "words_of" ["line"] (R1 pre_m_words_of m_words_of)
abbrev nn_m_words_of : List Str := ["line"]
theorem sc_m_words_of : FnScope nn_m_words_of ["line"] (defScope s_words_of) := ⟨rfl, rfl, rfl, by decide +kernel, rfl, by decide +kernel, by decide +kernel⟩
theorem ok_m_words_of (T : Tx K mg)  : Q_m_words_of P w K mg base := by
  refine fng_of T.d_m_words_of (fun _ _ _ _ _ _ us hl => match us, hl with | [_], _ => rfl) fun f fd F => fn_d F sc_m_words_of R1.len ?_
  rintro cdv A outer s G0 H0 E ss W r hr ⟨line, rfl, hpre, rfl⟩
  have nd := sc_m_words_of.nd
  have hpre : line.length ≤ 1000000 := hpre
  refine d_res (W' := R0) (fun _ _ _ _ => trivial) ?_
  refine d_ifr (dt_w (dw_or (dt_not (dt_val (de_isi (T := "str") T.isinstance (dv 0 rfl) (pe_bltn (by rfl) T.str (by decide +kernel) rfl) (k := true) (by rfl)))) (fun hb1 => (dw_or1 (dt_ne (α := Int) hr (te_len T.len (ts_n (tn_split (dv 0 rfl) de_str ?s1 ?s2))) de_int))))) (fun hb2 => ?b_hb2) (fun hb2 => ?b_hb2n)
  case s1 =>
    decide
  case s2 =>
    exact hpre
  case b_hb2 =>
    refine d_ret (s := En (none : (Option (List Str)))) de_non fun v G' H' g r => ⟨G', g, ?fin⟩
    case fin =>
      have e : m_words_of line = (none : (Option (List Str))) := by
        subst_vars
        first | rfl | (simp only [m_words_of, hb2, cond_true, cond_false]; done) | (simp [m_words_of, hb2]; done)
      rw [e]
      exact r
  refine d_ret (s := En (some (Txt.split line (Str.ofString " ")))) (te_some (te_n (tn_split (dv 0 rfl) de_str ?s3 ?s4))) fun v G' H' g r => ⟨G', g, ?fin⟩
  case s3 =>
    decide
  case s4 =>
    exact hpre
  case fin =>
    have e : m_words_of line = (some (Txt.split line (Str.ofString " "))) := by
      subst_vars
      first | rfl | (simp only [m_words_of, hb2, cond_true, cond_false]; done) | (simp [m_words_of, hb2]; done)
    rw [e]
    exact r
abbrev Q_m_word_none (P : Program) (w : World) (K : PySem.W.Frag) (mg : Str → Option Value) (base : Heap) : Prop := FnG P w K mg base 1 "_law_word" ["_law_e"] (R1 (fun (_ : Unit) => True) (fun _ => m_word_none))
abbrev nn_m_word_none : List Str := ["_law_e", "_law_some", "_law_found", "_law_word_here", "_law_is_so"]
theorem sc_m_word_none : FnScope nn_m_word_none ["_law_e"] (defScope s_law_word) := ⟨rfl, rfl, rfl, by decide +kernel, rfl, by decide +kernel, by decide +kernel⟩
theorem ok_m_word_none (T : Tx K mg)  : Q_m_word_none P w K mg base := by
  refine fng_of T.d_m_word (fun _ _ _ _ _ _ us hl => match us, hl with | [_], _ => rfl) fun f fd F => fn_d F sc_m_word_none R1.len ?_
  rintro cdv A outer s G0 H0 E ss W r hr ⟨_, rfl, hpre, rfl⟩
  have nd := sc_m_word_none.nd
  have hpre : True := hpre
  refine d_res (W' := R0) (fun _ _ _ _ => trivial) ?_
  refine d_letN (an_set (i := 1) nd (tn_k (.cons (de_pair de_str (de_isC T.isinstance (dv 0 rfl) T.g_BadCount T.kit_None_BadCount)) (.cons (de_pair de_str (de_isC T.isinstance (dv 0 rfl) T.g_BadLine T.kit_None_BadLine)) (.cons (de_pair de_str (de_isC T.isinstance (dv 0 rfl) T.g_BadWeb T.kit_None_BadWeb)) .nil (by rfl)) (by rfl)) (by rfl)))) fun someV hsomeV => ?_
  refine d_letN (an_set (i := 1) nd (tn_cat (ts_d (dv 1 rfl)) (ts_n (tn_2 (de_pair de_str (de_isC T.isinstance (dv 0 rfl) T.g_BadStanding T.kit_None_BadStanding)) (de_pair de_str (de_isC T.isinstance (dv 0 rfl) T.g_BadTie T.kit_None_BadTie)))) ?s1)) fun someV1 hsomeV1 => ?_
  case s1 =>
    subst_vars
    decide +kernel
  refine d_letN (an_set (i := 1) nd (tn_cat (ts_d (dv 1 rfl)) (ts_n (tn_2 (de_pair de_str (de_isC T.isinstance (dv 0 rfl) T.g_NoPoint T.kit_None_NoPoint)) (de_pair de_str (de_isC T.isinstance (dv 0 rfl) T.g_TooMany T.kit_None_TooMany)))) ?s2)) fun someV2 hsomeV2 => ?_
  case s2 =>
    subst_vars
    decide +kernel
  refine d_letN (i := 2) (xs := (List.map (fun yword => yword.1) (List.filter (fun yword => yword.2) someV2))) ?an9 fun found hfound => ?_
  case an9 =>
    refine (an_lc (i := 2) [("_law_word_here", 3), ("_law_is_so", 4)] someV2 (fun yword => En yword) (fun yword => yword.2) (fun yword => yword.1) (fun yword => [some (En ()), some (En someV2), none, some (En yword.1), some (En yword.2)]) rfl nd (dih_g (ti_list (dv 1 rfl))) (blkOk_by (N := nn_m_word_none) (sc := defScope s_law_word) (by decide +kernel)) (fun yword hyword _ _ _ _ _ => (dg_tup rfl (dgs_cons (dg_name (i := 3) nd) (dgs_cons (dg_name (i := 4) nd) dgs_nil)))) (fun yword hyword _ _ _ _ _ => dts_one (dt_val (dv 4 rfl))) (fun yword hyword hb1 _ _ _ _ _ => (dv 3 rfl)))
  refine d_ret (s := En (found ++ (rep (b2n ((!Option.isNone (none : Option Int)) && ((!false) || (!false)))) [(Str.ofString "else")]))) (te_n (tn_cat (ts_d (dv 2 rfl)) (ts_n (tn_rep (tn_1 de_str) (de_intb T.int (de_and (de_notN (α := Int) (dv 0 rfl)) (fun hb2 => (de_one (de_or (de_not (de_isC T.isinstance (dv 0 rfl) T.g_HuntError T.kit_None_HuntError)) (fun hb3 => (de_one (de_not (de_isi (T := "ValueError") T.isinstance (dv 0 rfl) (pe_bltn (by rfl) T.ValueError (by decide +kernel) rfl) (k := false) (by rfl)))))))))) ?s3 ?s4 ?s5)) ?s6)) fun v G' H' g r => ⟨G', g, ?fin⟩
  case s3 =>
    subst_vars
    decide +kernel
  case s4 =>
    subst_vars
    decide +kernel
  case s5 =>
    subst_vars
    decide +kernel
  case s6 =>
    subst_vars
    decide +kernel
  case fin =>
    have e : m_word_none  = (found ++ (rep (b2n ((!Option.isNone (none : Option Int)) && ((!false) || (!false)))) [(Str.ofString "else")])) := by
      subst_vars
      first | rfl | (simp only [m_word_none, cond_true, cond_false]; done) | (simp [m_word_none]; done)
    rw [e]
    exact r
abbrev Q_m_word_NoPoint (P : Program) (w : World) (K : PySem.W.Frag) (mg : Str → Option Value) (base : Heap) : Prop := FnG P w K mg base 1 "_law_word" ["_law_e"] (O0 (fun p (_ : Unit) => ExcR (He.ga K "NoPoint") p) (fun _ => True) (fun _ => m_word_NoPoint))
abbrev nn_m_word_NoPoint : List Str := ["_law_e", "_law_some", "_law_found", "_law_word_here", "_law_is_so"]
theorem sc_m_word_NoPoint : FnScope nn_m_word_NoPoint ["_law_e"] (defScope s_law_word) := ⟨rfl, rfl, rfl, by decide +kernel, rfl, by decide +kernel, by decide +kernel⟩
theorem ok_m_word_NoPoint (T : Tx K mg)  : Q_m_word_NoPoint P w K mg base := by
  refine fng_of T.d_m_word (fun _ _ _ _ _ _ us hl => match us, hl with | [_], _ => rfl) fun f fd F => fn_d F sc_m_word_NoPoint O0.len ?_
  rintro cdv A outer s G0 H0 E ss W r hr ⟨p0, _, rfl, rfl, hpre, rfl⟩
  have nd := sc_m_word_NoPoint.nd
  have hpre : True := hpre
  refine d_res (W' := (R0.and (ExcR (He.ga K "NoPoint") p0))) (fun _ _ _ h => ⟨trivial, h⟩) ?_
  refine d_letN (an_set (i := 1) nd (tn_k (.cons (de_pair de_str (de_isX T.isinstance T.x_NoPoint.is (dv 0 rfl) (fun _ _ _ h => h.2.2) (pe_glob (v := .ref (He.ga K "BadCount")) (by rfl) T.g_BadCount rfl) (fun _ r => r) T.kit_NoPoint_BadCount)) (.cons (de_pair de_str (de_isX T.isinstance T.x_NoPoint.is (dv 0 rfl) (fun _ _ _ h => h.2.2) (pe_glob (v := .ref (He.ga K "BadLine")) (by rfl) T.g_BadLine rfl) (fun _ r => r) T.kit_NoPoint_BadLine)) (.cons (de_pair de_str (de_isX T.isinstance T.x_NoPoint.is (dv 0 rfl) (fun _ _ _ h => h.2.2) (pe_glob (v := .ref (He.ga K "BadWeb")) (by rfl) T.g_BadWeb rfl) (fun _ r => r) T.kit_NoPoint_BadWeb)) .nil (by rfl)) (by rfl)) (by rfl)))) fun someV hsomeV => ?_
  refine d_letN (an_set (i := 1) nd (tn_cat (ts_d (dv 1 rfl)) (ts_n (tn_2 (de_pair de_str (de_isX T.isinstance T.x_NoPoint.is (dv 0 rfl) (fun _ _ _ h => h.2.2) (pe_glob (v := .ref (He.ga K "BadStanding")) (by rfl) T.g_BadStanding rfl) (fun _ r => r) T.kit_NoPoint_BadStanding)) (de_pair de_str (de_isX T.isinstance T.x_NoPoint.is (dv 0 rfl) (fun _ _ _ h => h.2.2) (pe_glob (v := .ref (He.ga K "BadTie")) (by rfl) T.g_BadTie rfl) (fun _ r => r) T.kit_NoPoint_BadTie)))) ?s1)) fun someV1 hsomeV1 => ?_
  case s1 =>
    subst_vars
    decide +kernel
  refine d_letN (an_set (i := 1) nd (tn_cat (ts_d (dv 1 rfl)) (ts_n (tn_2 (de_pair de_str (de_isX T.isinstance T.x_NoPoint.is (dv 0 rfl) (fun _ _ _ h => h.2.2) (pe_glob (v := .ref (He.ga K "NoPoint")) (by rfl) T.g_NoPoint rfl) (fun _ r => r) T.kit_NoPoint_NoPoint)) (de_pair de_str (de_isX T.isinstance T.x_NoPoint.is (dv 0 rfl) (fun _ _ _ h => h.2.2) (pe_glob (v := .ref (He.ga K "TooMany")) (by rfl) T.g_TooMany rfl) (fun _ r => r) T.kit_NoPoint_TooMany)))) ?s2)) fun someV2 hsomeV2 => ?_
  case s2 =>
    subst_vars
    decide +kernel
  refine d_letN (i := 2) (xs := (List.map (fun yword => yword.1) (List.filter (fun yword => yword.2) someV2))) ?an9 fun found hfound => ?_
  case an9 =>
    refine (an_lc (i := 2) [("_law_word_here", 3), ("_law_is_so", 4)] someV2 (fun yword => En yword) (fun yword => yword.2) (fun yword => yword.1) (fun yword => [some (.v (.ref p0)), some (En someV2), none, some (En yword.1), some (En yword.2)]) rfl nd (dih_g (ti_list (dv 1 rfl))) (blkOk_by (N := nn_m_word_NoPoint) (sc := defScope s_law_word) (by decide +kernel)) (fun yword hyword _ _ _ _ _ => (dg_tup rfl (dgs_cons (dg_name (i := 3) nd) (dgs_cons (dg_name (i := 4) nd) dgs_nil)))) (fun yword hyword _ _ _ _ _ => dts_one (dt_val (dv 4 rfl))) (fun yword hyword hb1 _ _ _ _ _ => (dv 3 rfl)))
  refine d_ret (s := En (found ++ (rep (b2n (true && ((!true) || (!true)))) [(Str.ofString "else")]))) (te_n (tn_cat (ts_d (dv 2 rfl)) (ts_n (tn_rep (tn_1 de_str) (de_intb T.int (de_and (de_notNv (dv 0 rfl)) (fun hb2 => (de_one (de_or (de_not (de_isX T.isinstance T.x_NoPoint.is (dv 0 rfl) (fun _ _ _ h => h.2.2) (pe_glob (v := .ref (He.ga K "HuntError")) (by rfl) T.g_HuntError rfl) (fun _ r => r) T.kit_NoPoint_HuntError)) (fun hb3 => (de_one (de_not (de_isX (c := .ty "ValueError") (cv := .type "ValueError") T.isinstance T.x_NoPoint.is (dv 0 rfl) (fun _ _ _ h => h.2.2) (pe_bltn (by rfl) T.ValueError (by decide +kernel) rfl) (fun _ r => r) T.kit_NoPoint_ValueError))))))))) ?s3 ?s4 ?s5)) ?s6)) fun v G' H' g r => ⟨G', g, ?fin⟩
  case s3 =>
    subst_vars
    decide +kernel
  case s4 =>
    subst_vars
    decide +kernel
  case s5 =>
    subst_vars
    decide +kernel
  case s6 =>
    subst_vars
    decide +kernel
  case fin =>
    have e : m_word_NoPoint  = (found ++ (rep (b2n (true && ((!true) || (!true)))) [(Str.ofString "else")])) := by
      subst_vars
      first | rfl | (simp only [m_word_NoPoint, cond_true, cond_false]; done) | (simp [m_word_NoPoint]; done)
    rw [e]
    exact r
abbrev Q_m_word_BadTie (P : Program) (w : World) (K : PySem.W.Frag) (mg : Str → Option Value) (base : Heap) : Prop := FnG P w K mg base 1 "_law_word" ["_law_e"] (O0 (fun p (_ : Unit) => ExcR (He.ga K "BadTie") p) (fun _ => True) (fun _ => m_word_BadTie))
abbrev nn_m_word_BadTie : List Str := ["_law_e", "_law_some", "_law_found", "_law_word_here", "_law_is_so"]
theorem sc_m_word_BadTie : FnScope nn_m_word_BadTie ["_law_e"] (defScope s_law_word) := ⟨rfl, rfl, rfl, by decide +kernel, rfl, by decide +kernel, by decide +kernel⟩
theorem ok_m_word_BadTie (T : Tx K mg)  : Q_m_word_BadTie P w K mg base := by
  refine fng_of T.d_m_word (fun _ _ _ _ _ _ us hl => match us, hl with | [_], _ => rfl) fun f fd F => fn_d F sc_m_word_BadTie O0.len ?_
  rintro cdv A outer s G0 H0 E ss W r hr ⟨p0, _, rfl, rfl, hpre, rfl⟩
  have nd := sc_m_word_BadTie.nd
  have hpre : True := hpre
  refine d_res (W' := (R0.and (ExcR (He.ga K "BadTie") p0))) (fun _ _ _ h => ⟨trivial, h⟩) ?_
  refine d_letN (an_set (i := 1) nd (tn_k (.cons (de_pair de_str (de_isX T.isinstance T.x_BadTie.is (dv 0 rfl) (fun _ _ _ h => h.2.2) (pe_glob (v := .ref (He.ga K "BadCount")) (by rfl) T.g_BadCount rfl) (fun _ r => r) T.kit_BadTie_BadCount)) (.cons (de_pair de_str (de_isX T.isinstance T.x_BadTie.is (dv 0 rfl) (fun _ _ _ h => h.2.2) (pe_glob (v := .ref (He.ga K "BadLine")) (by rfl) T.g_BadLine rfl) (fun _ r => r) T.kit_BadTie_BadLine)) (.cons (de_pair de_str (de_isX T.isinstance T.x_BadTie.is (dv 0 rfl) (fun _ _ _ h => h.2.2) (pe_glob (v := .ref (He.ga K "BadWeb")) (by rfl) T.g_BadWeb rfl) (fun _ r => r) T.kit_BadTie_BadWeb)) .nil (by rfl)) (by rfl)) (by rfl)))) fun someV hsomeV => ?_
  refine d_letN (an_set (i := 1) nd (tn_cat (ts_d (dv 1 rfl)) (ts_n (tn_2 (de_pair de_str (de_isX T.isinstance T.x_BadTie.is (dv 0 rfl) (fun _ _ _ h => h.2.2) (pe_glob (v := .ref (He.ga K "BadStanding")) (by rfl) T.g_BadStanding rfl) (fun _ r => r) T.kit_BadTie_BadStanding)) (de_pair de_str (de_isX T.isinstance T.x_BadTie.is (dv 0 rfl) (fun _ _ _ h => h.2.2) (pe_glob (v := .ref (He.ga K "BadTie")) (by rfl) T.g_BadTie rfl) (fun _ r => r) T.kit_BadTie_BadTie)))) ?s1)) fun someV1 hsomeV1 => ?_
  case s1 =>
    subst_vars
    decide +kernel
  refine d_letN (an_set (i := 1) nd (tn_cat (ts_d (dv 1 rfl)) (ts_n (tn_2 (de_pair de_str (de_isX T.isinstance T.x_BadTie.is (dv 0 rfl) (fun _ _ _ h => h.2.2) (pe_glob (v := .ref (He.ga K "NoPoint")) (by rfl) T.g_NoPoint rfl) (fun _ r => r) T.kit_BadTie_NoPoint)) (de_pair de_str (de_isX T.isinstance T.x_BadTie.is (dv 0 rfl) (fun _ _ _ h => h.2.2) (pe_glob (v := .ref (He.ga K "TooMany")) (by rfl) T.g_TooMany rfl) (fun _ r => r) T.kit_BadTie_TooMany)))) ?s2)) fun someV2 hsomeV2 => ?_
  case s2 =>
    subst_vars
    decide +kernel
  refine d_letN (i := 2) (xs := (List.map (fun yword => yword.1) (List.filter (fun yword => yword.2) someV2))) ?an9 fun found hfound => ?_
  case an9 =>
    refine (an_lc (i := 2) [("_law_word_here", 3), ("_law_is_so", 4)] someV2 (fun yword => En yword) (fun yword => yword.2) (fun yword => yword.1) (fun yword => [some (.v (.ref p0)), some (En someV2), none, some (En yword.1), some (En yword.2)]) rfl nd (dih_g (ti_list (dv 1 rfl))) (blkOk_by (N := nn_m_word_BadTie) (sc := defScope s_law_word) (by decide +kernel)) (fun yword hyword _ _ _ _ _ => (dg_tup rfl (dgs_cons (dg_name (i := 3) nd) (dgs_cons (dg_name (i := 4) nd) dgs_nil)))) (fun yword hyword _ _ _ _ _ => dts_one (dt_val (dv 4 rfl))) (fun yword hyword hb1 _ _ _ _ _ => (dv 3 rfl)))
  refine d_ret (s := En (found ++ (rep (b2n (true && ((!true) || (!true)))) [(Str.ofString "else")]))) (te_n (tn_cat (ts_d (dv 2 rfl)) (ts_n (tn_rep (tn_1 de_str) (de_intb T.int (de_and (de_notNv (dv 0 rfl)) (fun hb2 => (de_one (de_or (de_not (de_isX T.isinstance T.x_BadTie.is (dv 0 rfl) (fun _ _ _ h => h.2.2) (pe_glob (v := .ref (He.ga K "HuntError")) (by rfl) T.g_HuntError rfl) (fun _ r => r) T.kit_BadTie_HuntError)) (fun hb3 => (de_one (de_not (de_isX (c := .ty "ValueError") (cv := .type "ValueError") T.isinstance T.x_BadTie.is (dv 0 rfl) (fun _ _ _ h => h.2.2) (pe_bltn (by rfl) T.ValueError (by decide +kernel) rfl) (fun _ r => r) T.kit_BadTie_ValueError))))))))) ?s3 ?s4 ?s5)) ?s6)) fun v G' H' g r => ⟨G', g, ?fin⟩
  case s3 =>
    subst_vars
    decide +kernel
  case s4 =>
    subst_vars
    decide +kernel
  case s5 =>
    subst_vars
    decide +kernel
  case s6 =>
    subst_vars
    decide +kernel
  case fin =>
    have e : m_word_BadTie  = (found ++ (rep (b2n (true && ((!true) || (!true)))) [(Str.ofString "else")])) := by
      subst_vars
      first | rfl | (simp only [m_word_BadTie, cond_true, cond_false]; done) | (simp [m_word_BadTie]; done)
    rw [e]
    exact r
abbrev Q_m_word_BadWeb (P : Program) (w : World) (K : PySem.W.Frag) (mg : Str → Option Value) (base : Heap) : Prop := FnG P w K mg base 1 "_law_word" ["_law_e"] (O0 (fun p (_ : Unit) => ExcR (He.ga K "BadWeb") p) (fun _ => True) (fun _ => m_word_BadWeb))
abbrev nn_m_word_BadWeb : List Str := ["_law_e", "_law_some", "_law_found", "_law_word_here", "_law_is_so"]
theorem sc_m_word_BadWeb : FnScope nn_m_word_BadWeb ["_law_e"] (defScope s_law_word) := ⟨rfl, rfl, rfl, by decide +kernel, rfl, by decide +kernel, by decide +kernel⟩
theorem ok_m_word_BadWeb (T : Tx K mg)  : Q_m_word_BadWeb P w K mg base := by
  refine fng_of T.d_m_word (fun _ _ _ _ _ _ us hl => match us, hl with | [_], _ => rfl) fun f fd F => fn_d F sc_m_word_BadWeb O0.len ?_
  rintro cdv A outer s G0 H0 E ss W r hr ⟨p0, _, rfl, rfl, hpre, rfl⟩
  have nd := sc_m_word_BadWeb.nd
  have hpre : True := hpre
  refine d_res (W' := (R0.and (ExcR (He.ga K "BadWeb") p0))) (fun _ _ _ h => ⟨trivial, h⟩) ?_
  refine d_letN (an_set (i := 1) nd (tn_k (.cons (de_pair de_str (de_isX T.isinstance T.x_BadWeb.is (dv 0 rfl) (fun _ _ _ h => h.2.2) (pe_glob (v := .ref (He.ga K "BadCount")) (by rfl) T.g_BadCount rfl) (fun _ r => r) T.kit_BadWeb_BadCount)) (.cons (de_pair de_str (de_isX T.isinstance T.x_BadWeb.is (dv 0 rfl) (fun _ _ _ h => h.2.2) (pe_glob (v := .ref (He.ga K "BadLine")) (by rfl) T.g_BadLine rfl) (fun _ r => r) T.kit_BadWeb_BadLine)) (.cons (de_pair de_str (de_isX T.isinstance T.x_BadWeb.is (dv 0 rfl) (fun _ _ _ h => h.2.2) (pe_glob (v := .ref (He.ga K "BadWeb")) (by rfl) T.g_BadWeb rfl) (fun _ r => r) T.kit_BadWeb_BadWeb)) .nil (by rfl)) (by rfl)) (by rfl)))) fun someV hsomeV => ?_
  refine d_letN (an_set (i := 1) nd (tn_cat (ts_d (dv 1 rfl)) (ts_n (tn_2 (de_pair de_str (de_isX T.isinstance T.x_BadWeb.is (dv 0 rfl) (fun _ _ _ h => h.2.2) (pe_glob (v := .ref (He.ga K "BadStanding")) (by rfl) T.g_BadStanding rfl) (fun _ r => r) T.kit_BadWeb_BadStanding)) (de_pair de_str (de_isX T.isinstance T.x_BadWeb.is (dv 0 rfl) (fun _ _ _ h => h.2.2) (pe_glob (v := .ref (He.ga K "BadTie")) (by rfl) T.g_BadTie rfl) (fun _ r => r) T.kit_BadWeb_BadTie)))) ?s1)) fun someV1 hsomeV1 => ?_
  case s1 =>
    subst_vars
    decide +kernel
  refine d_letN (an_set (i := 1) nd (tn_cat (ts_d (dv 1 rfl)) (ts_n (tn_2 (de_pair de_str (de_isX T.isinstance T.x_BadWeb.is (dv 0 rfl) (fun _ _ _ h => h.2.2) (pe_glob (v := .ref (He.ga K "NoPoint")) (by rfl) T.g_NoPoint rfl) (fun _ r => r) T.kit_BadWeb_NoPoint)) (de_pair de_str (de_isX T.isinstance T.x_BadWeb.is (dv 0 rfl) (fun _ _ _ h => h.2.2) (pe_glob (v := .ref (He.ga K "TooMany")) (by rfl) T.g_TooMany rfl) (fun _ r => r) T.kit_BadWeb_TooMany)))) ?s2)) fun someV2 hsomeV2 => ?_
  case s2 =>
    subst_vars
    decide +kernel
  refine d_letN (i := 2) (xs := (List.map (fun yword => yword.1) (List.filter (fun yword => yword.2) someV2))) ?an9 fun found hfound => ?_
  case an9 =>
    refine (an_lc (i := 2) [("_law_word_here", 3), ("_law_is_so", 4)] someV2 (fun yword => En yword) (fun yword => yword.2) (fun yword => yword.1) (fun yword => [some (.v (.ref p0)), some (En someV2), none, some (En yword.1), some (En yword.2)]) rfl nd (dih_g (ti_list (dv 1 rfl))) (blkOk_by (N := nn_m_word_BadWeb) (sc := defScope s_law_word) (by decide +kernel)) (fun yword hyword _ _ _ _ _ => (dg_tup rfl (dgs_cons (dg_name (i := 3) nd) (dgs_cons (dg_name (i := 4) nd) dgs_nil)))) (fun yword hyword _ _ _ _ _ => dts_one (dt_val (dv 4 rfl))) (fun yword hyword hb1 _ _ _ _ _ => (dv 3 rfl)))
  refine d_ret (s := En (found ++ (rep (b2n (true && ((!true) || (!true)))) [(Str.ofString "else")]))) (te_n (tn_cat (ts_d (dv 2 rfl)) (ts_n (tn_rep (tn_1 de_str) (de_intb T.int (de_and (de_notNv (dv 0 rfl)) (fun hb2 => (de_one (de_or (de_not (de_isX T.isinstance T.x_BadWeb.is (dv 0 rfl) (fun _ _ _ h => h.2.2) (pe_glob (v := .ref (He.ga K "HuntError")) (by rfl) T.g_HuntError rfl) (fun _ r => r) T.kit_BadWeb_HuntError)) (fun hb3 => (de_one (de_not (de_isX (c := .ty "ValueError") (cv := .type "ValueError") T.isinstance T.x_BadWeb.is (dv 0 rfl) (fun _ _ _ h => h.2.2) (pe_bltn (by rfl) T.ValueError (by decide +kernel) rfl) (fun _ r => r) T.kit_BadWeb_ValueError))))))))) ?s3 ?s4 ?s5)) ?s6)) fun v G' H' g r => ⟨G', g, ?fin⟩
  case s3 =>
    subst_vars
    decide +kernel
  case s4 =>
    subst_vars
    decide +kernel
  case s5 =>
    subst_vars
    decide +kernel
  case s6 =>
    subst_vars
    decide +kernel
  case fin =>
    have e : m_word_BadWeb  = (found ++ (rep (b2n (true && ((!true) || (!true)))) [(Str.ofString "else")])) := by
      subst_vars
      first | rfl | (simp only [m_word_BadWeb, cond_true, cond_false]; done) | (simp [m_word_BadWeb]; done)
    rw [e]
    exact r
/-! by hand: is_among of any data; what raises NoPoint, of a web -/
abbrev Q_m_amongD (P : Program) (w : World) (K : PySem.W.Frag) (mg : Str → Option Value) (base : Heap) : Prop := FnG P w K mg base 1 "is_among" ["thing", "least", "most"] (RA3 amongD)
theorem ok_m_amongD (T : Tx K mg) : Q_m_amongD P w K mg base := by
  refine fng_of T.d_m_is_among (fun _ _ _ _ _ _ us hl => match us, hl with | [_, _, _], _ => rfl) fun f fd F => fn_d F sc_m_is_among RA3.len ?_
  rintro cdv A outer s G0 H0 E ss W r hr ⟨d, l, n, rfl, rfl⟩
  have nd := sc_m_is_among.nd
  refine d_res (W' := R0) (fun _ _ _ _ => trivial) ?_
  have no : ∀ {Y : L2.Cx} {W : Res} {ρ : Ro} {e : Expr} {b : Bool}, false = true → DE Y W e ρ (En b) := fun z => by cases z
  cases d with
  | int i => exact d_ret (s := En (true && ((!false) && (decide (l ≤ i) && decide (i ≤ n))))) (de_and (de_isi (T := "int") T.isinstance (dv 0 rfl) (pe_bltn (by rfl) T.int (by decide +kernel) rfl) (k := true) (by rfl)) (fun _ => (de_and (de_not (de_isi (T := "bool") T.isinstance (dv 0 rfl) (pe_bltn (by rfl) T.bool (by decide +kernel) rfl) (k := false) (by rfl))) (fun _ => (de_one (de_le_le (dv 1 rfl) (dv 0 rfl) (dv 2 rfl))))))) fun v G' H' g r => ⟨G', g, r⟩
  | bool b => exact d_ret (s := En (true && ((!true) && false))) (de_and (de_isi (T := "int") T.isinstance (dv 0 rfl) (pe_bltn (by rfl) T.int (by decide +kernel) rfl) (k := true) (by rfl)) (fun _ => (de_and (de_not (de_isi (T := "bool") T.isinstance (dv 0 rfl) (pe_bltn (by rfl) T.bool (by decide +kernel) rfl) (k := true) (by rfl))) (fun z => by cases z)))) fun v G' H' g r => ⟨G', g, r⟩
  | none => exact d_ret (s := En (false && false)) (de_and (de_isi (T := "int") T.isinstance (dv 0 rfl) (pe_bltn (by rfl) T.int (by decide +kernel) rfl) (k := false) (by rfl)) (fun z => by cases z)) fun v G' H' g r => ⟨G', g, r⟩
  | str x => exact d_ret (s := En (false && false)) (de_and (de_isi (T := "int") T.isinstance (dv 0 rfl) (pe_bltn (by rfl) T.int (by decide +kernel) rfl) (k := false) (by rfl)) (fun z => by cases z)) fun v G' H' g r => ⟨G', g, r⟩
  | list x => exact d_ret (s := En (false && false)) (de_and (de_isi (T := "int") T.isinstance (dv 0 rfl) (pe_bltn (by rfl) T.int (by decide +kernel) rfl) (k := false) (by rfl)) (fun z => by cases z)) fun v G' H' g r => ⟨G', g, r⟩
  | tuple x => exact d_ret (s := En (false && false)) (de_and (de_isi (T := "int") T.isinstance (dv 0 rfl) (pe_bltn (by rfl) T.int (by decide +kernel) rfl) (k := false) (by rfl)) (fun z => by cases z)) fun v G' H' g r => ⟨G', g, r⟩
  | dict x => exact d_ret (s := En (false && false)) (de_and (de_isi (T := "int") T.isinstance (dv 0 rfl) (pe_bltn (by rfl) T.int (by decide +kernel) rfl) (k := false) (by rfl)) (fun z => by cases z)) fun v G' H' g r => ⟨G', g, r⟩
/-- d is no point of n -/
abbrev noP (n : Int) (d : PyData) : Prop := amongD d 0 (n - 1) = false
theorem no_or (n : Int) (d : PyData) : noP n d ∨ ∃ i : Int, d = .int i ∧ 0 ≤ i ∧ i < n := by
  cases h : amongD d 0 (n - 1) with
  | false => exact .inl h
  | true =>
    obtain ⟨i, e, h1, h2⟩ := amongD_true h
    exact .inr ⟨i, e, h1, by omega⟩
abbrev Q_m_web_np (P : Program) (w : World) (K : PySem.W.Frag) (mg : Str → Option Value) (base : Heap) : Prop := MtX P w K mg base 2 (He.ga K "Web") "need_point" ["self", "point"] (E1 (WebR (He.ga K "Web")) (fun s d => noP s.n d) (He.ga K "NoPoint"))
theorem ok_m_web_np (T : Tx K mg) (H_a : Q_m_amongD P w K mg base) : Q_m_web_np P w K mg base := by
  obtain ⟨f, fd, F, M⟩ := T.d_m_Web_need_point
  refine ⟨f, fd, M, F.bindsN fun _ _ _ _ _ _ us hl => match us, hl with | [_, _], _ => rfl, fn_r F sc_m_Web_need_point E1.len ?_⟩
  rintro cdv A outer s G0 H0 E ss W c hr ⟨p0, s0, d, rfl, rfl, hpre, rfl⟩ tk
  have nd := sc_m_Web_need_point.nd
  refine d_ifr (dt_not (dt_val (callA3 H_a hr (dv 1 rfl) de_int (de_sub (de_att (s := En s0.n) T.cl_Web T.na_Web_size (dv 0 rfl) (fun _ _ _ h => h.1)) de_int)))) (fun h => ?a) (fun h => ?b)
  case a => exact d_raise rfl tk PySem.F.excBase_ValueError T.x_NoPoint.ex T.x_NoPoint.mg T.x_NoPoint.kp (raises_own T.x_NoPoint.sub T.x_NoPoint.ty) (fun σ H ⟨G, g, q, c⟩ => ⟨rfl, rfl, G, g⟩)
  case b =>
    exfalso
    rw [show amongD d 0 (s0.n - 1) = false from hpre] at h
    cases h
abbrev Q_m_web_pairx (P : Program) (w : World) (K : PySem.W.Frag) (mg : Str → Option Value) (base : Heap) : Prop := MtX P w K mg base 3 (He.ga K "Web") "pair" ["self", "one", "other"] (E2 (WebR (He.ga K "Web")) (fun s d e => noP s.n d ∨ noP s.n e) (He.ga K "NoPoint"))
theorem ok_m_web_pairx (T : Tx K mg) (H_n : Q_m_Web_need_point P w K mg base) (H_x : Q_m_web_np P w K mg base) : Q_m_web_pairx P w K mg base := by
  obtain ⟨f, fd, F, M⟩ := T.d_m_Web_pair
  refine ⟨f, fd, M, F.bindsN fun _ _ _ _ _ _ us hl => match us, hl with | [_, _, _], _ => rfl, fn_r F sc_m_Web_pair E2.len ?_⟩
  rintro cdv A outer s G0 H0 E ss W c hr ⟨p0, s0, d, e, rfl, rfl, hpre, rfl⟩ tk
  have nd := sc_m_Web_pair.nd
  rcases no_or s0.n d with h1 | ⟨i, rfl, hi⟩
  · exact d_dropR (rx_m1 H_x T.cl_Web (web_is _) tk hr (dv 0 rfl) (fun _ _ _ h => h) (dv 1 rfl) h1) (fun σ H ⟨G, g, q, c⟩ => ⟨rfl, rfl, G, g⟩)
  · have h2 : noP s0.n e := hpre.resolve_left fun z => by
      have z2 : (decide (0 ≤ i) && decide (i ≤ s0.n - 1)) = false := z
      simp only [Bool.and_eq_false_iff, decide_eq_false_iff_not] at z2
      omega
    refine d_drop (om1 H_n T.cl_Web (web_is _) hr (dv 0 rfl) (fun _ _ _ h => h) (a := i) (dv 1 rfl) hi) ?_
    exact d_dropR (rx_m1 H_x T.cl_Web (web_is _) tk hr (dv 0 rfl) (fun _ _ _ h => h) (dv 2 rfl) h2) (fun σ H ⟨G, g, q, c⟩ => ⟨rfl, rfl, G, g⟩)
abbrev Q_m_web_tiex (P : Program) (w : World) (K : PySem.W.Frag) (mg : Str → Option Value) (base : Heap) : Prop := MtX P w K mg base 4 (He.ga K "Web") "tie" ["self", "one", "other"] (E2 (WebR (He.ga K "Web")) (fun s d e => noP s.n d ∨ noP s.n e) (He.ga K "NoPoint"))
theorem ok_m_web_tiex (T : Tx K mg) (H_x : Q_m_web_pairx P w K mg base) : Q_m_web_tiex P w K mg base := by
  obtain ⟨f, fd, F, M⟩ := T.d_m_Web_tie
  refine ⟨f, fd, M, F.bindsN fun _ _ _ _ _ _ us hl => match us, hl with | [_, _, _], _ => rfl, fn_r F sc_m_Web_tie E2.len ?_⟩
  rintro cdv A outer s G0 H0 E ss W c hr ⟨p0, s0, d, e, rfl, rfl, hpre, rfl⟩ tk
  exact d_setR (i := 3) sc_m_Web_tie.nd (rx_m2 H_x T.cl_Web (web_is _) tk hr (dv 0 rfl) (fun _ _ _ h => h) (dv 1 rfl) (dv 2 rfl) hpre) (fun σ H ⟨G, g, q, c⟩ => ⟨rfl, rfl, G, g⟩)
abbrev cTie (s : WS) (d e : PyData) : Prop := ∃ i j : Int, d = .int i ∧ e = .int j ∧ (0 ≤ i ∧ i < s.n ∧ 0 ≤ j ∧ j < s.n) ∧ (i = j ∨ pr i j ∈ s.ps)
abbrev Q_m_web_tiey (P : Program) (w : World) (K : PySem.W.Frag) (mg : Str → Option Value) (base : Heap) : Prop := MtX P w K mg base 4 (He.ga K "Web") "tie" ["self", "one", "other"] (E2 (WebR (He.ga K "Web")) cTie (He.ga K "BadTie"))
theorem ok_m_web_tiey (T : Tx K mg) (H_p : Q_m_Web_pair P w K mg base) : Q_m_web_tiey P w K mg base := by
  obtain ⟨f, fd, F, M⟩ := T.d_m_Web_tie
  refine ⟨f, fd, M, F.bindsN fun _ _ _ _ _ _ us hl => match us, hl with | [_, _, _], _ => rfl, fn_r F sc_m_Web_tie E2.len ?_⟩
  rintro cdv A outer s G0 H0 E ss W c hr ⟨p0, s0, d, e, rfl, rfl, ⟨i, j, rfl, rfl, hin, hbad⟩, rfl⟩ tk
  have nd := sc_m_Web_tie.nd
  refine d_let (i := 3) nd (om2 H_p T.cl_Web (web_is _) hr (dv 0 rfl) (fun _ _ _ h => h) (a := i) (b := j) (dv 1 rfl) (dv 2 rfl) ⟨hin.1, hin.2.1, hin.2.2.1, hin.2.2.2⟩) fun pair hpair => ?_
  refine d_ifr (dt_w (dw_or (dt_eq (α := Int) (x := i) (y := j) hr (dv 1 rfl) (dv 2 rfl)) fun _ => dw_or1 (dt_dinT (ps := s0.ps) hr (dv 3 rfl) (de_att (s := .v (.ref s0.d)) T.cl_Web T.na_Web_pairs (dv 0 rfl) (fun _ _ _ h => h.1)) (fun _ _ _ h => h.2.2)))) (fun h => ?a) (fun h => ?b)
  case a => exact d_raise rfl tk PySem.F.excBase_ValueError T.x_BadTie.ex T.x_BadTie.mg T.x_BadTie.kp (raises_own T.x_BadTie.sub T.x_BadTie.ty) (fun σ H ⟨G, g, q, c⟩ => ⟨rfl, rfl, G, g⟩)
  case b =>
    exfalso
    rw [Bool.or_eq_false_iff, eqB_false, memB_false, hpair] at h
    exact hbad.elim h.1 h.2
def RE_Web_init (C D : Addr) : List Sl → Res → Value → Prop := fun ss W c => ∃ p d, ss = [.v (.ref p), .d d] ∧ W = (InsR C p).and R0 ∧ amongD d 1 12 = false ∧ c = .ref D
abbrev Q_m_web_mkx (P : Program) (w : World) (K : PySem.W.Frag) (mg : Str → Option Value) (base : Heap) : Prop := MkR P w K mg base 2 "Web" (He.ga K "Web") ["self", "many"] (RE_Web_init (He.ga K "Web") (He.ga K "BadWeb"))
theorem ok_m_web_mkx (T : Tx K mg) (H_a : Q_m_amongD P w K mg base) : Q_m_web_mkx P w K mg base := by
  obtain ⟨f, fd, F, M⟩ := T.d_Web__init_
  refine ⟨f, fd, M, T.g_Web, F.bindsN fun _ _ _ _ _ _ us hl => match us, hl with | [_, _], _ => rfl, fn_r F sc_m_Web_init (fun ss W c ⟨_, _, e, _⟩ => by rw [e]; rfl) ?_⟩
  rintro cdv A outer s G0 H0 E ss W c hr ⟨p, d, rfl, rfl, hpre, rfl⟩ tk
  refine d_ifr (dt_not (dt_val (callA3 H_a hr (dv 1 rfl) de_int (de_gint T.c_MOST_POINTS)))) (fun h => ?a) (fun h => ?b)
  case a => exact d_raise rfl tk PySem.F.excBase_ValueError T.x_BadWeb.ex T.x_BadWeb.mg T.x_BadWeb.kp (raises_own T.x_BadWeb.sub T.x_BadWeb.ty) (fun σ H ⟨G, g, q, c⟩ => ⟨rfl, rfl, G, g⟩)
  case b =>
    exfalso
    rw [hpre] at h
    cases h

/-! by hand: BadLine's __init__; words_of, begun, is_put, web_of of any lines -/
abbrev C_Web (K : PySem.W.Frag) : Addr := He.ga K "Web"
abbrev C_BL (K : PySem.W.Frag) : Addr := He.ga K "BadLine"
abbrev Q_m_bl (P : Program) (w : World) (K : PySem.W.Frag) (mg : Str → Option Value) (base : Heap) : Prop := InitX P w K mg base 1 (C_BL K) "place" ["self", "place"]
theorem sc_m_bl : FnScope ["self", "place"] ["self", "place"] (defScope s_BadLine__init_) := ⟨rfl, rfl, rfl, by decide +kernel, rfl, by decide +kernel, by decide +kernel⟩
theorem ok_m_bl (T : Tx K mg) : Q_m_bl P w K mg base := by
  obtain ⟨f, fd, F, M⟩ := T.d_m_bl
  refine ⟨f, fd, M.at_, beq_iff_eq.mp M.fn, F.bindsN fun _ _ _ _ _ _ us hl => match us, hl with | [_, _], _ => rfl, FunD.ok F sc_m_bl (fun vs H Q E ⟨a, i, e, _⟩ => by rw [e]; rfl) fun cdv A outer s H vs Q E hr ⟨a, i, ev, hO, hno, ha, k⟩ => ?_⟩
  subst ev
  refine ⟨tSeq _ _, pss_cons (ps_expr (pe_hinit (by rfl) T.g_HuntError T.xh_HuntError (pa_cons (pe_var (i := 0) rfl (.inl rfl)) (pa_cons pe_str pa_nil rfl) rfl)) rfl) (pss_one (ps_ost (f := "place") (pe_var (i := 0) rfl (.inl rfl)) (pe_var (i := 1) rfl (.inl rfl)))), ?_⟩
  refine ⟨.ref a, rfl, ⟨a, C_BL K, [.str _], rfl, by decide, hO, ha, ?_⟩⟩
  refine ⟨.int i, rfl, .ref a, rfl, a, C_BL K, rfl, hO, hno, .inl ⟨ha, fun dx hdx hne => k dx hdx hne⟩⟩
abbrev Q_m_words (P : Program) (w : World) (K : PySem.W.Frag) (mg : Str → Option Value) (base : Heap) : Prop := FnG P w K mg base 1 "words_of" ["line"] (R1 okLn wordsL)
theorem ok_m_words (T : Tx K mg) : Q_m_words P w K mg base := by
  refine fng_of T.d_m_words_of (fun _ _ _ _ _ _ us hl => match us, hl with | [_], _ => rfl) fun f fd F => fn_d F sc_m_words_of R1.len ?_
  rintro cdv A outer s G0 H0 E ss W r hr ⟨line, rfl, hpre, rfl⟩
  have nd := sc_m_words_of.nd
  refine d_res (W' := R0) (fun _ _ _ _ => trivial) ?_
  cases line with
  | s line =>
    have hpre : line.length ≤ 1000000 := hpre
    refine d_ifr (dt_w (dw_or (dt_not (dt_val (de_isi (T := "str") T.isinstance (dv 0 rfl) (pe_bltn (by rfl) T.str (by decide +kernel) rfl) (k := true) (by rfl)))) (fun hb1 => (dw_or1 (dt_ne (α := Int) hr (te_len T.len (ts_n (tn_split (x := line) (dv 0 rfl) de_str (by decide) hpre))) de_int))))) (fun hb2 => ?a) (fun hb2 => ?b)
    case a =>
      refine d_ret (s := En (none : (Option (List Str)))) de_non fun v G' H' g r => ⟨G', g, ?_⟩
      have e : wordsL (.s line) = (none : (Option (List Str))) := by
        show m_words_of line = none
        unfold m_words_of
        rw [hb2]
        rfl
      rw [e]
      exact r
    case b =>
      refine d_ret (s := En (some (Txt.split line (Str.ofString " ")))) (te_some (te_n (tn_split (x := line) (dv 0 rfl) de_str (by decide) hpre))) fun v G' H' g r => ⟨G', g, ?_⟩
      have e : wordsL (.s line) = some (Txt.split line (Str.ofString " ")) := by
        show m_words_of line = _
        unfold m_words_of
        rw [hb2]
        rfl
      rw [e]
      exact r
  | n => exact d_ifr (k := true) (dt_w (dw_or (q := false) (dt_not (dt_val (de_isi (T := "str") T.isinstance (dv 0 rfl) (pe_bltn (by rfl) T.str (by decide +kernel) rfl) (k := false) (by rfl)))) (fun z => by cases z))) (fun _ => d_ret (s := En (none : (Option (List Str)))) de_non fun v G' H' g r => ⟨G', g, r⟩) (fun z => by cases z)
  | i k => exact d_ifr (k := true) (dt_w (dw_or (q := false) (dt_not (dt_val (de_isi (T := "str") T.isinstance (dv 0 rfl) (pe_bltn (by rfl) T.str (by decide +kernel) rfl) (k := false) (by rfl)))) (fun z => by cases z))) (fun _ => d_ret (s := En (none : (Option (List Str)))) de_non fun v G' H' g r => ⟨G', g, r⟩) (fun z => by cases z)
  | l xs => exact d_ifr (k := true) (dt_w (dw_or (q := false) (dt_not (dt_val (de_isi (T := "str") T.isinstance (dv 0 rfl) (pe_bltn (by rfl) T.str (by decide +kernel) rfl) (k := false) (by rfl)))) (fun z => by cases z))) (fun _ => d_ret (s := En (none : (Option (List Str)))) de_non fun v G' H' g r => ⟨G', g, r⟩) (fun z => by cases z)
/-! two words -/
theorem two_ix {Y : L2.Cx} {W : Res} {ρ : Ro} {e b : Expr} {z : Pos} {i : Int} {x y : Str} (he : DE Y W e ρ (En (some [x, y]))) (hb : DE Y W b ρ (En i)) (hi : 0 ≤ i ∧ i ≤ 1) (hs : PlainIx b) : DE Y W (.Subscript e b z) ρ (En (ixD [x, y] i)) :=
  de_ix (ts_d (te_oD he (by intro z; cases z))) hb (by show -(2 : Int) ≤ _ ∧ _ < (2 : Int); omega) hs
theorem two_0 {Y : L2.Cx} {W : Res} {ρ : Ro} {e b : Expr} {z : Pos} {x y : Str} (he : DE Y W e ρ (En (some [x, y]))) (hb : DE Y W b ρ (En (0 : Int))) (hs : PlainIx b := by intro _ _; rfl) : DE Y W (.Subscript e b z) ρ (En x) := two_ix he hb (by decide) hs
theorem two_1 {Y : L2.Cx} {W : Res} {ρ : Ro} {e b : Expr} {z : Pos} {x y : Str} (he : DE Y W e ρ (En (some [x, y]))) (hb : DE Y W b ρ (En (1 : Int))) (hs : PlainIx b := by intro _ _; rfl) : DE Y W (.Subscript e b z) ρ (En y) := two_ix he hb (by decide) hs
theorem num_n {Y : L2.Cx} {W : Res} {ρ : Ro} {e : Expr} {x : Str} {n : Int} (hn : m_number_of x = some n) (h : DE Y W e ρ (En (m_number_of x))) : DE Y W e ρ (En n) := by
  rw [hn] at h
  exact h
/-! begun -/
abbrev nn_m_begun : List Str := ["line", "words", "found"]
theorem sc_m_begun : FnScope nn_m_begun ["line"] (defScope s_begun) := ⟨rfl, rfl, rfl, by decide +kernel, rfl, by decide +kernel, by decide +kernel⟩
def R_begun (C : Addr) : List Sl → Res → List Addr → PostT → Prop := fun ss W ds Post => ∃ l n, ss = [En l] ∧ W = R0 ∧ (okLn l ∧ begL l = some n) ∧ ds = [] ∧ Post = fun N W' r => ∃ p d, N = [p, d] ∧ W' = R0.and (WebR C p ⟨d, n, []⟩) ∧ r = .v (.ref p) ∧ d ≠ p
abbrev Q_m_begun (P : Program) (w : World) (K : PySem.W.Frag) (mg : Str → Option Value) (base : Heap) : Prop := FnM P w K mg base 5 "begun" ["line"] (R_begun (He.ga K "Web"))
theorem ok_m_begun (T : Tx K mg) (H_s : Q_m_words P w K mg base) (H_n : Q_m_number_of P w K mg base) (HI : Q_m_Web_init P w K mg base) : Q_m_begun P w K mg base := by
  obtain ⟨f, fd, F, hm⟩ := T.d_m_begun
  refine ⟨f, fd, hm, F.kp, F.bindsN fun _ _ _ _ _ _ us hl => match us, hl with | [_], _ => rfl, fn_m F sc_m_begun (fun ss W ds Post ⟨_, _, e, _⟩ => by rw [e]; rfl) ?_⟩
  rintro cdv A outer s G0 H0 E ss W ds Post hr ⟨l, n, rfl, rfl, ⟨hok, hbeg⟩, rfl, rfl⟩ hd
  have nd := sc_m_begun.nd
  obtain ⟨b, hws, hnb, hn, hbl⟩ := begL_some hok hbeg
  refine d_let (i := 1) (α := Option (List Str)) nd (call1 H_s hr (dv 0 rfl) hok) fun words hw => ?_
  rw [hws] at hw
  subst hw
  refine d_ifr (dt_w (dw_or (dt_isN (α := List Str) (dv 1 rfl)) (fun _ => dw_or (dt_ne (α := Str) (x := Str.ofString "points") hr (two_0 (dv 1 rfl) de_int) de_str) (fun _ => dw_or1 (dt_isN (α := Int) (call1 H_n hr (two_1 (dv 1 rfl) de_int) hbl)))))) (fun h => ?bad) (fun h => ?go)
  case bad =>
    exfalso
    rw [hnb, eqB_true.mpr rfl] at h
    cases h
  case go =>
    refine d_tryN (M := fun σ H => ∃ p d, ((cut [] H0 p = none ∧ cut [] H0 d = none) ∧ d ≠ p) ∧ At G0 (cut [] H0) G0 (R0.and (WebR (He.ga K "Web") p ⟨d, n, []⟩)) [some (En l), some (En (some [Str.ofString "points", b])), some (.v (.ref p))] σ H) ?body (d_ex fun p => d_ex fun d => d_and fun hf => ?rest)
    case body =>
      refine dx_set (i := 2) nd (dx_make (W0 := R0) (Pst := fun p N W' r => ∃ d, N = [d] ∧ W' = WebR (He.ga K "Web") p ⟨d, n, []⟩ ∧ r = .d .none ∧ d ≠ p) HI hr (da_cons (num_n hnb (call1 H_n hr (two_1 (dv 1 rfl) de_int) hbl)) da_nil rfl) (fun _ _ _ _ _ _ => trivial) (fun p => ⟨p, n, rfl, rfl, hn, rfl, rfl⟩) (fun p N W1 r0 h => by
        obtain ⟨d, _, _, h, _⟩ := h
        exact h)) (fun d hd => by cases hd) (fun d hd => by cases hd) fun N W' r hP hN hne => ?_
      obtain ⟨p, N0, W1, r0, ⟨d, rfl, rfl, rfl, ndp⟩, rfl, rfl, rfl⟩ := hP
      exact d_nil fun σ H h => ⟨p, d, ⟨⟨(hN p List.mem_cons_self).1, (hN d (List.mem_cons_of_mem _ List.mem_cons_self)).1⟩, ndp⟩, h⟩
    case rest =>
      refine d_retW (dv 2 rfl) fun v G' H' g _ hw r => ⟨[p, d], _, _, G', ⟨p, d, rfl, rfl, rfl, hf.2⟩, fun a ha => ?_, g, hw, r⟩
      rw [← cut_nil (H := H0)]
      rcases List.mem_cons.mp ha with z | z
      · rw [z]
        exact hf.1.1
      · rw [List.mem_singleton.mp z]
        exact hf.1.2
/-- no web is begun -/
abbrev Q_m_begunN (P : Program) (w : World) (K : PySem.W.Frag) (mg : Str → Option Value) (base : Heap) : Prop := FnG P w K mg base 5 "begun" ["line"] (R1 (fun l : Ln => okLn l ∧ begL l = none) (fun _ => (none : Option Int)))
theorem ok_m_begunN (T : Tx K mg) (H_s : Q_m_words P w K mg base) (H_n : Q_m_number_of P w K mg base) (HX : Q_m_web_mkx P w K mg base) : Q_m_begunN P w K mg base := by
  refine fng_of T.d_m_begun (fun _ _ _ _ _ _ us hl => match us, hl with | [_], _ => rfl) fun f fd F => fn_d F sc_m_begun R1.len ?_
  rintro cdv A outer s G0 H0 E ss W r hr ⟨l, rfl, ⟨hok, hbeg⟩, rfl⟩
  have nd := sc_m_begun.nd
  refine d_res (W' := R0) (fun _ _ _ _ => trivial) ?_
  refine d_let (i := 1) (α := Option (List Str)) nd (call1 H_s hr (dv 0 rfl) hok) fun words hw => ?_
  rcases begL_none hok hbeg with hws | ⟨a, b, hws, hal, hbl, why⟩
  · rw [hws] at hw
    subst hw
    exact d_ifr (k := true) (dt_w (dw_or (p := true) (q := false) (dt_isN (α := List Str) (x := none) (dv 1 rfl)) (fun z => by cases z))) (fun _ => d_ret (s := En (none : Option Int)) de_non fun v G' H' g r => ⟨G', g, r⟩) (fun z => by cases z)
  · rw [hws] at hw
    subst hw
    refine d_ifr (dt_w (dw_or (dt_isN (α := List Str) (dv 1 rfl)) (fun _ => dw_or (dt_ne (α := Str) (x := a) hr (two_0 (dv 1 rfl) de_int) de_str) (fun _ => dw_or1 (dt_isN (α := Int) (call1 H_n hr (two_1 (dv 1 rfl) de_int) hbl)))))) (fun h => d_ret (s := En (none : Option Int)) de_non fun v G' H' g r => ⟨G', g, r⟩) (fun h => ?go)
    have key : ∃ n, m_number_of b = some n ∧ ¬ (1 ≤ n ∧ n ≤ 12) := by
      rcases why with ha | ⟨ha, hb⟩
      · rw [eqB_false.mpr ha] at h
        cases h
      · rcases hb with hb | hb
        · rw [hb, ha, eqB_true.mpr rfl] at h
          cases h
        · exact hb
    obtain ⟨n, hnb, hn⟩ := key
    have hD : amongD (.int n) 1 12 = false := by
      show (decide ((1 : Int) ≤ n) && decide (n ≤ (12 : Int))) = false
      rw [Bool.and_eq_false_iff, decide_eq_false_iff_not, decide_eq_false_iff_not]
      omega
    refine d_tryO (M := At G0 H0 G0 R0 [some (En l), some (En (some [a, b])), some (En (none : Option Int))]) (c := .ref (He.ga K "HuntError")) (C := He.ga K "BadWeb") rfl rfl takes_no ⟨rfl, by decide, .inl T.g_HuntError⟩ T.exm_BadWeb (fun pn xe tk => ?body) (fun ea oe pn => ?suite) ?rest
    case body => exact d_setR (i := 2) nd (rx_make HX tk hr (da_cons (num_n hnb (call1 H_n hr (two_1 (dv 1 rfl) de_int) hbl)) da_nil rfl) (fun _ _ _ _ => trivial) (fun p => ⟨p, .int n, rfl, rfl, hD, rfl⟩)) (fun σ H h => ⟨rfl, rfl, h⟩)
    case suite =>
      refine d_let (i := 2) (α := Option Int) (y := none) nd de_non fun z hz => ?_
      subst hz
      exact d_nil fun σ H h => h
    case rest => exact d_ret (s := En (none : Option Int)) (dv 2 rfl) fun v G' H' g r => ⟨G', g, r⟩
/-! is_put -/
abbrev nn_m_is_put : List Str := ["web", "line", "words", "good"]
theorem sc_m_is_put : FnScope nn_m_is_put ["web", "line"] (defScope s_is_put) := ⟨rfl, rfl, rfl, by decide +kernel, rfl, by decide +kernel, by decide +kernel⟩
def R_is_put (C : Addr) : List Sl → Res → List Addr → PostT → Prop := fun ss W ds Post => ∃ p s l q, ss = [.v (.ref p), En l] ∧ W = WebR C p s ∧ (okLn l ∧ putL s.n s.ps l = some q ∧ s.ps.length < 1000000) ∧ ds = [s.d] ∧ Post = fun N W' r => N = [] ∧ W' = WebR C p ⟨s.d, s.n, s.ps ++ [q]⟩ ∧ r = En true
abbrev Q_m_is_put (P : Program) (w : World) (K : PySem.W.Frag) (mg : Str → Option Value) (base : Heap) : Prop := FnM P w K mg base 6 "is_put" ["web", "line"] (R_is_put (He.ga K "Web"))
theorem ok_m_is_put (T : Tx K mg) (H_s : Q_m_words P w K mg base) (H_n : Q_m_number_of P w K mg base) (H_t : Q_m_Web_tie P w K mg base) : Q_m_is_put P w K mg base := by
  obtain ⟨f, fd, F, hm⟩ := T.d_m_is_put
  refine ⟨f, fd, hm, F.kp, F.bindsN fun _ _ _ _ _ _ us hl => match us, hl with | [_, _], _ => rfl, fn_m F sc_m_is_put (fun ss W ds Post ⟨_, _, _, _, e, _⟩ => by rw [e]; rfl) ?_⟩
  rintro cdv A outer s G0 H0 E ss W ds Post hr ⟨p, s0, l, q, rfl, rfl, ⟨hok, hput, hlen⟩, rfl, rfl⟩ hd
  have nd := sc_m_is_put.nd
  have h0 : cut [s0.d] H0 s0.d = none := cut_in List.mem_cons_self
  have wis : IsO (WebR (He.ga K "Web")) (He.ga K "Web") "tie" := web_is _
  obtain ⟨a, b, i, j, hws, hal, hbl, hna, hnb, hi, hj, hij, hnew, rfl⟩ := putL_some hok hput
  refine d_let (i := 2) (α := Option (List Str)) nd (call1 H_s hr (dv 1 rfl) hok) fun words hw => ?_
  rw [hws] at hw
  subst hw
  refine d_ifr (dt_w (dw_or (dt_isN (α := List Str) (dv 2 rfl)) (fun _ => dw_or (dt_isN (α := Int) (call1 H_n hr (two_0 (dv 2 rfl) de_int) hal)) (fun _ => dw_or1 (dt_isN (α := Int) (call1 H_n hr (two_1 (dv 2 rfl) de_int) hbl)))))) (fun h => ?bad) (fun h => ?go)
  case bad =>
    exfalso
    rw [hna, hnb] at h
    cases h
  case go =>
    refine d_let (i := 3) (α := Bool) nd de_bl fun good hgood => ?_
    subst hgood
    refine d_tryN (M := At G0 (cut [s0.d] H0) G0 (WebR (He.ga K "Web") p ⟨s0.d, s0.n, s0.ps ++ [pr i j]⟩) [some (.v (.ref p)), some (En l), some (En (some [a, b])), some (En true)]) ?body ?rest
    case body =>
      refine dx_drop (dx_meth (A := R0) (ds := [s0.d]) H_t T.cl_Web hr (dv 0 rfl) (fun G H s h => wis p _ G H h) (da_cons (num_n hna (call1 H_n hr (two_0 (dv 2 rfl) de_int) hal)) (da_cons (num_n hnb (call1 H_n hr (two_1 (dv 2 rfl) de_int) hbl)) da_nil rfl) rfl) (fun G H _ h z hz => by
        rw [List.mem_singleton.mp hz]
        exact ⟨_, h.2.2, fun _ z => nomatch z⟩) (fun G H s h => h) (fun _ _ _ _ _ => trivial) ⟨p, s0, i, j, rfl, rfl, ⟨hi.1, hi.2, hj.1, hj.2, hij, hnew, hlen⟩, rfl, rfl⟩) (fun z hz => by
        rw [List.mem_singleton.mp hz]
        exact h0) (fun z hz G H _ h => by
        rw [List.mem_singleton.mp hz]
        exact h.2.1) fun N W' r hP hN hne => ?_
      obtain ⟨W2, ⟨rfl, rfl, rfl⟩, rfl⟩ := hP
      exact d_res (W' := WebR (He.ga K "Web") p ⟨s0.d, s0.n, s0.ps ++ [pr i j]⟩) (fun _ _ _ h => h.2) (d_nil fun σ H h => h)
    case rest => exact d_retW (s := En true) (dv 3 rfl) fun v G' H' g _ hw r => ⟨[], _, _, G', ⟨rfl, rfl, rfl⟩, (fun a ha => by cases ha), g, hw, r⟩
/-- a line that puts nothing in -/
abbrev Q_m_is_putN (P : Program) (w : World) (K : PySem.W.Frag) (mg : Str → Option Value) (base : Heap) : Prop := FnG P w K mg base 6 "is_put" ["web", "line"] (O1 (WebR (He.ga K "Web")) (fun s (l : Ln) => okLn l ∧ putL s.n s.ps l = none) (fun _ _ => false))
theorem ok_m_is_putN (T : Tx K mg) (H_s : Q_m_words P w K mg base) (H_n : Q_m_number_of P w K mg base) (H_x : Q_m_web_tiex P w K mg base) (H_y : Q_m_web_tiey P w K mg base) : Q_m_is_putN P w K mg base := by
  refine fng_of T.d_m_is_put (fun _ _ _ _ _ _ us hl => match us, hl with | [_, _], _ => rfl) fun f fd F => fn_d F sc_m_is_put O1.len ?_
  rintro cdv A outer s G0 H0 E ss W r hr ⟨p, s0, l, rfl, rfl, ⟨hok, hput⟩, rfl⟩
  have nd := sc_m_is_put.nd
  refine d_let (i := 2) (α := Option (List Str)) nd (call1 H_s hr (dv 1 rfl) hok) fun words hw => ?_
  rcases putL_none hok hput with hws | ⟨a, b, hws, hal, hbl, why⟩
  · rw [hws] at hw
    subst hw
    exact d_ifr (k := true) (dt_w (dw_or (p := true) (q := false) (dt_isN (α := List Str) (x := none) (dv 2 rfl)) (fun z => by cases z))) (fun _ => d_ret (s := En false) de_bl fun v G' H' g r => ⟨G', g, r⟩) (fun z => by cases z)
  · rw [hws] at hw
    subst hw
    refine d_ifr (dt_w (dw_or (dt_isN (α := List Str) (dv 2 rfl)) (fun _ => dw_or (dt_isN (α := Int) (call1 H_n hr (two_0 (dv 2 rfl) de_int) hal)) (fun _ => dw_or1 (dt_isN (α := Int) (call1 H_n hr (two_1 (dv 2 rfl) de_int) hbl)))))) (fun h => d_ret (s := En false) de_bl fun v G' H' g r => ⟨G', g, r⟩) (fun h => ?go)
    have key : ∃ i j, m_number_of a = some i ∧ m_number_of b = some j ∧ (¬ ((0 ≤ i ∧ i < s0.n) ∧ (0 ≤ j ∧ j < s0.n)) ∨ ((0 ≤ i ∧ i < s0.n) ∧ (0 ≤ j ∧ j < s0.n)) ∧ (i = j ∨ pr i j ∈ s0.ps)) := by
      rcases why with ha | ⟨i, ha, hb⟩
      · rw [ha] at h
        cases h
      · rcases hb with hb | ⟨j, hb, q⟩
        · rw [ha, hb] at h
          cases h
        · exact ⟨i, j, ha, hb, q⟩
    obtain ⟨i, j, hna, hnb, q⟩ := key
    refine d_let (i := 3) (α := Bool) nd de_bl fun good hgood => ?_
    subst hgood
    rcases q with q | ⟨q1, q2⟩
    · have cx : noP s0.n (.int i) ∨ noP s0.n (.int j) := by
        have np : ∀ k : Int, ¬ (0 ≤ k ∧ k < s0.n) → noP s0.n (.int k) := fun k hk => by
          show (decide (0 ≤ k) && decide (k ≤ s0.n - 1)) = false
          rw [Bool.and_eq_false_iff, decide_eq_false_iff_not, decide_eq_false_iff_not]
          omega
        by_cases c : 0 ≤ i ∧ i < s0.n
        · exact .inr (np j fun z => q ⟨c, z⟩)
        · exact .inl (np i c)
      refine d_tryO (M := At G0 H0 G0 (WebR (He.ga K "Web") p s0) [some (.v (.ref p)), some (En l), some (En (some [a, b])), some (En false)]) (c := .ref (He.ga K "HuntError")) (C := He.ga K "NoPoint") rfl rfl takes_no ⟨rfl, by decide, .inl T.g_HuntError⟩ T.exm_NoPoint (fun pn xe tk => ?body) (fun ea oe pn => ?suite) ?rest
      case body => exact d_dropR (rx_m2 H_x T.cl_Web (web_is _) tk hr (dv 0 rfl) (fun _ _ _ h => h) (d1 := .int i) (d2 := .int j) (num_n hna (call1 H_n hr (two_0 (dv 2 rfl) de_int) hal)) (num_n hnb (call1 H_n hr (two_1 (dv 2 rfl) de_int) hbl)) cx) (fun σ H h => ⟨rfl, rfl, h⟩)
      case suite =>
        refine d_let (i := 3) (α := Bool) nd de_bl fun z hz => ?_
        subst hz
        exact d_nil fun σ H h => h
      case rest => exact d_ret (s := En false) (dv 3 rfl) fun v G' H' g r => ⟨G', g, r⟩
    · refine d_tryO (M := At G0 H0 G0 (WebR (He.ga K "Web") p s0) [some (.v (.ref p)), some (En l), some (En (some [a, b])), some (En false)]) (c := .ref (He.ga K "HuntError")) (C := He.ga K "BadTie") rfl rfl takes_no ⟨rfl, by decide, .inl T.g_HuntError⟩ T.exm_BadTie (fun pn xe tk => ?body) (fun ea oe pn => ?suite) ?rest
      case body => exact d_dropR (rx_m2 H_y T.cl_Web (web_is _) tk hr (dv 0 rfl) (fun _ _ _ h => h) (d1 := .int i) (d2 := .int j) (num_n hna (call1 H_n hr (two_0 (dv 2 rfl) de_int) hal)) (num_n hnb (call1 H_n hr (two_1 (dv 2 rfl) de_int) hbl)) ⟨i, j, rfl, rfl, ⟨q1.1.1, q1.1.2, q1.2.1, q1.2.2⟩, q2⟩) (fun σ H h => ⟨rfl, rfl, h⟩)
      case suite =>
        refine d_let (i := 3) (α := Bool) nd de_bl fun z hz => ?_
        subst hz
        exact d_nil fun σ H h => h
      case rest => exact d_ret (s := En false) (dv 3 rfl) fun v G' H' g r => ⟨G', g, r⟩

/-! by hand: web_of -/
abbrev nn_m_web_of : List Str := ["lines", "web", "place", "line"]
theorem sc_m_web_of : FnScope nn_m_web_of ["lines"] (defScope s_web_of) := ⟨rfl, rfl, rfl, by decide +kernel, rfl, by decide +kernel, by decide +kernel⟩
def GoodL (ls : List Ln) (n : Int) (qs : List (Int × Int)) : Prop := okLs ls ∧ ∃ d ds, ls = d :: ds ∧ begL d = some n ∧ Steps n [] qs ds ∧ qs.length = ds.length
def R_web_of (C : Addr) : List Sl → Res → List Addr → PostT → Prop := fun ss W ds Post => ∃ ls n qs, ss = [En ls] ∧ W = R0 ∧ GoodL ls n qs ∧ ds = [] ∧ Post = fun N W' r => ∃ p d, N = [p, d] ∧ W' = R0.and (WebR C p ⟨d, n, qs⟩) ∧ r = .v (.ref p) ∧ d ≠ p
abbrev Q_m_web_of (P : Program) (w : World) (K : PySem.W.Frag) (mg : Str → Option Value) (base : Heap) : Prop := FnM P w K mg base 8 "web_of" ["lines"] (R_web_of (He.ga K "Web"))
theorem take_next {n : Int} {qs : List (Int × Int)} {ds : List Ln} (st : Steps n [] qs ds) {b : Nat} (hb : b < qs.length) : ∃ d q, ds[b]? = some d ∧ putL n (qs.take b) d = some q ∧ qs.take (b + 1) = qs.take b ++ [q] := by
  obtain ⟨d, h1, h2⟩ := st b qs[b] (List.getElem?_eq_getElem hb)
  exact ⟨d, qs[b], h1, h2, List.take_succ_eq_append_getElem hb⟩
theorem ok_m_web_of (T : Tx K mg) (H_b : Q_m_begun P w K mg base) (H_p : Q_m_is_put P w K mg base) : Q_m_web_of P w K mg base := by
  obtain ⟨f, fd, F, hm⟩ := T.d_m_web_of
  refine ⟨f, fd, hm, F.kp, F.bindsN fun _ _ _ _ _ _ us hl => match us, hl with | [_], _ => rfl, fn_m F sc_m_web_of (fun ss W ds Post ⟨_, _, _, e, _⟩ => by rw [e]; rfl) ?_⟩
  rintro cdv A outer s G0 H0 E ss W dz Post hr ⟨ls, n, qs, rfl, rfl, ⟨hok, l0, ds, rfl, hbeg, st, hl⟩, rfl, rfl⟩ hd
  have nd := sc_m_web_of.nd
  have hds : ds.length ≤ 999 := by have := hok.2; rw [List.length_cons] at this; omega
  have ix0 : ixD (l0 :: ds) 0 = l0 := ixD_zero
  refine d_ifr (dt_w (dw_or (dt_not (dt_val (de_isi (T := "list") T.isinstance (dv 0 rfl) (pe_bltn (by rfl) T.list (by decide +kernel) rfl) (k := true) (by rfl)))) (fun _ => dw_or1 (dt_eq (α := List Ln) (x := l0 :: ds) (y := []) hr (dv 0 rfl) (te_n (tn_nil rfl)))))) (fun h => ?bad) (fun h => ?go)
  case bad =>
    exfalso
    rw [eqB_false.mpr (show l0 :: ds ≠ [] by intro z; cases z)] at h
    cases h
  case go =>
    have arg : ∀ {Y : L2.Cx} {W : Res} {ρ : Ro} {e : Expr}, DE Y W e ρ (En (ixD (l0 :: ds) 0)) → DE Y W e ρ (En l0) := fun h => by
      rw [ix0] at h
      exact h
    refine dx_set (i := 1) nd (dx_call (A := R0) (ds := []) H_b hr (da_cons (arg (de_ix (ts_d (dv 0 rfl)) de_int (by show -(ds.length + 1 : Int) ≤ 0 ∧ 0 < (ds.length + 1 : Int); omega))) da_nil rfl) (fun _ _ _ _ d hd => by cases hd) (fun _ _ _ _ => trivial) (fun _ _ _ _ _ => trivial) ⟨l0, n, rfl, rfl, ⟨hok.1 l0 List.mem_cons_self, hbeg⟩, rfl, rfl⟩) (fun d hd => by cases hd) (fun d hd => by cases hd) fun N W' r hP hN hne => ?_
    obtain ⟨W2, ⟨p, d, rfl, rfl, rfl, ndp⟩, rfl⟩ := hP
    have hp : cut [] H0 p = none := (hN p List.mem_cons_self).1
    have hd0 : cut [] H0 d = none := (hN d (List.mem_cons_of_mem _ List.mem_cons_self)).1
    refine d_res (W' := R0.and (WebR (He.ga K "Web") p ⟨d, n, []⟩)) (fun _ _ _ h => h.2) ?_
    refine d_ifr (dt_isNv (dv 1 rfl)) (fun z => by cases z) (fun _ => ?_)
    refine d_fold (js := [2, 3]) (enumF 0 (l0 :: ds)) (fun z => En z) (fun (b : Nat) (x : Int × Ln) => b + 1) (fun (pre : List (Int × Ln)) (b : Nat) => b = pre.length) (fun b => R0.and (WebR (He.ga K "Web") p ⟨d, n, qs.take (b - 1)⟩)) (fun b => [some (En (l0 :: ds)), some (.v (.ref p)), none, none]) (fun b x => [some (En (l0 :: ds)), some (.v (.ref p)), some (En x.1), some (En x.2)]) (0 : Nat) PassesOwn.never rfl (ti_enum T.enumerate (dv 0 rfl)) (fun G H σ c => ⟨c.s, c.w, c.e.weak (.same (.same (.same (.same .nil))))⟩) rfl (fun b x hx => (dg_tup rfl (dgs_cons (dg_name (i := 2) nd) (dgs_cons (dg_name (i := 3) nd) dgs_nil)))) (fun G2 bk pre x post b hxs hb hiv hG hW2 => ?turn) (fun b hb hiv => ?after)
    case turn =>
      obtain ⟨xa, xl⟩ := enum_at hxs
      have fin : ∀ σ H, At G0 (cut [] H0) G2 (R0.and (WebR (He.ga K "Web") p ⟨d, n, qs.take (b + 1 - 1)⟩)) [some (En (l0 :: ds)), some (.v (.ref p)), some (En x.1), some (En x.2)] σ H → (b + 1 = (pre ++ [x]).length) ∧ At G0 (cut [] H0) G2 (R0.and (WebR (He.ga K "Web") p ⟨d, n, qs.take (b + 1 - 1)⟩)) [some (En (l0 :: ds)), some (.v (.ref p)), none, none] σ H := fun σ H h => ⟨by rw [List.length_append, ← hiv]; rfl, At.weak (.same (.same (.drop (.drop .nil)))) h⟩
      cases b with
      | zero =>
        have e0 : x.1 = 0 := by rw [xa, ← hiv]; rfl
        exact d_ifr (dt_w (dw_and (q := false) (dt_gt (dv 2 rfl) de_int) (fun z => by rw [e0] at z; cases z))) (fun z => by rw [Bool.and_false] at z; cases z) (fun _ => d_nil fin)
      | succ b =>
        have hb1 : b < qs.length := by
          have q := congrArg List.length hxs
          rw [enum_len, List.length_append, List.length_cons, List.length_cons, ← hiv] at q
          omega
        obtain ⟨l, q, h1, h2, tk⟩ := take_next st hb1
        have hl2 : x.2 = l := by
          have q1 : (l0 :: ds)[b + 1]? = some x.2 := by rw [hiv]; exact xl
          rw [List.getElem?_cons_succ, h1] at q1
          exact (Option.some.inj q1).symm
        have hokl : okLn x.2 := by
          rw [hl2]
          exact hok.1 l (List.mem_cons_of_mem _ (List.mem_of_getElem? h1))
        have e1 : (0 : Int) < x.1 := by rw [xa, ← hiv]; show (0 : Int) < ((b + 1 : Nat) : Int); omega
        have tl : (qs.take b).length < 1000000 := by
          have := List.length_take_le b qs
          omega
        refine d_ifAndNotX (fun G H _ h z hz => by
          rw [List.mem_singleton.mp hz]
          exact ⟨_, h.2.2.2, fun _ z => nomatch z⟩) (dtk (dt_gt (dv 2 rfl) de_int) (decide_eq_true e1)) (dx_call (A := R0) (ds := [d]) H_p hr (da_cons (dv 1 rfl) (da_cons (dv 3 rfl) da_nil rfl) rfl) (fun G H _ h z hz => by
          rw [List.mem_singleton.mp hz]
          exact ⟨_, h.2.2.2, fun _ z => nomatch z⟩) (fun G H s h => h.2) (fun _ _ _ _ _ => trivial) ⟨p, ⟨d, n, qs.take b⟩, x.2, q, rfl, rfl, ⟨hokl, by rw [hl2]; exact h2, tl⟩, rfl, rfl⟩) (fun N W' r hP => by
          obtain ⟨W3, ⟨_, _, h⟩, _⟩ := hP
          exact h) (fun z hz => by
          rw [List.mem_singleton.mp hz]
          exact hd0) (fun z hz G H _ h => by
          rw [List.mem_singleton.mp hz]
          exact h.2.2.1) fun N W' r hP hN2 => ?_
        obtain ⟨W3, ⟨rfl, rfl, rfl⟩, rfl⟩ := hP
        refine d_nil fun σ H h => fin σ H ?_
        show At G0 (cut [] H0) G2 (R0.and (WebR (He.ga K "Web") p ⟨d, n, qs.take (b + 1)⟩)) _ σ H
        rw [tk]
        exact h
    case after =>
      have e : qs.take (b - 1) = qs := by
        rw [hiv, enum_len, List.length_cons, Nat.add_sub_cancel, ← hl, List.take_length]
      rw [e]
      refine d_retW (dv 1 rfl) fun v G' H' g _ hw r => ⟨[p, d], _, _, G', ⟨p, d, rfl, rfl, rfl, ndp⟩, fun a ha => ?_, g, hw, r⟩
      rw [← cut_nil (H := H0)]
      rcases List.mem_cons.mp ha with z | z
      · rw [z]
        exact hp
      · rw [List.mem_singleton.mp z]
        exact hd0
/-- lines that are refused: where -/
inductive BadAt : PyData → Int → Prop
  | no (d : PyData) (h : ∀ xs, d ≠ .list xs) : BadAt d 0
  | ls (ls : List Ln) (k : Int) (h : okLs ls) (e : readT ls = .at k) : BadAt (Datum.toD ls) k
def R_web_ofX (C : Addr) : List Sl → Res → Value → Int → Prop := fun ss W c k => ∃ d, ss = [.d d] ∧ W = R0 ∧ BadAt d k ∧ c = .ref C
abbrev Q_m_web_ofX (P : Program) (w : World) (K : PySem.W.Frag) (mg : Str → Option Value) (base : Heap) : Prop := FnF P w K mg base 8 "web_of" ["lines"] "place" (R_web_ofX (C_BL K))
theorem to_raised {G0 H0 G1 : Hp} {W : Res} {ρ : Ro} {c : Value} {f : Str} {n : Int} : ∀ cls d σ H, wF G0 H0 G1 W ρ c f n cls d σ H → raisedF G0 H0 c f n cls d σ H := fun cls d σ H ⟨e, dd, e2, G', h, z1, z2, z3⟩ => ⟨e, dd, G', e2, h.1, z1, z2, z3⟩
theorem isi_list (d : PyData) (h : ∀ xs, d ≠ .list xs) : kitB (tyD d) "list" = some false := by
  cases d with
  | list xs => exact absurd rfl (h xs)
  | none => rfl
  | bool b => rfl
  | int i => rfl
  | str x => rfl
  | tuple xs => rfl
  | dict xs => rfl
theorem ok_m_web_ofX (T : Tx K mg) (H_b : Q_m_begun P w K mg base) (H_bn : Q_m_begunN P w K mg base) (H_p : Q_m_is_put P w K mg base) (H_pn : Q_m_is_putN P w K mg base) (H_i : Q_m_bl P w K mg base) : Q_m_web_ofX P w K mg base := by
  obtain ⟨f, fd, F, hm⟩ := T.d_m_web_of
  refine ⟨f, fd, hm, F.kp, F.bindsN fun _ _ _ _ _ _ us hl => match us, hl with | [_], _ => rfl, fn_rF F sc_m_web_of (fun ss W c n ⟨_, e, _⟩ => by rw [e]; rfl) ?_⟩
  rintro cdv A outer s G0 H0 E ss W c k hr ⟨dv0, rfl, rfl, hbad, rfl⟩ tk
  have nd := sc_m_web_of.nd
  cases hbad with
  | no d h => exact d_ifr (k := true) (dt_w (dw_or (p := true) (q := false) (dt_not (dt_val (de_isi (T := "list") T.isinstance (dv 0 rfl) (pe_bltn (by rfl) T.list (by decide +kernel) rfl) (k := false) (isi_list _ h)))) (fun z => by cases z))) (fun _ => d_raiseF rfl tk T.xo_BadLine H_i T.xn_BadLine hr T.g_BadLine de_int to_raised) (fun z => by cases z)
  | ls ls k hok hread =>
    show DSs _ _ (At G0 H0 G0 R0 (startR nn_m_web_of [En ls])) noEnd
    cases rdC ls with
    | good d ds n qs e hn h st hl =>
      rw [h] at hread
      cases hread
    | first h e =>
      rw [h] at hread
      cases hread
      rcases e with rfl | ⟨l0, ds, rfl, hbeg⟩
      · refine d_ifr (k := true) (dtk (dt_w (dw_or (dt_not (dt_val (de_isi (T := "list") T.isinstance (dv 0 rfl) (pe_bltn (by rfl) T.list (by decide +kernel) rfl) (k := true) (by rfl)))) (fun _ => dw_or1 (dt_eq (α := List Ln) (x := []) (y := []) hr (dv 0 rfl) (te_n (tn_nil rfl)))))) (by rw [eqB_true.mpr rfl]; rfl)) (fun _ => d_raiseF rfl tk T.xo_BadLine H_i T.xn_BadLine hr T.g_BadLine de_int to_raised) (fun z => by cases z)
      · have ix0 : ixD (l0 :: ds) 0 = l0 := ixD_zero
        have arg : ∀ {Y : L2.Cx} {W : Res} {ρ : Ro} {e : Expr}, DE Y W e ρ (En (ixD (l0 :: ds) 0)) → DE Y W e ρ (En l0) := fun h => by
          rw [ix0] at h
          exact h
        have hds : ds.length ≤ 999 := by have := hok.2; rw [List.length_cons] at this; omega
        refine d_ifr (k := false) (dtk (dt_w (dw_or (dt_not (dt_val (de_isi (T := "list") T.isinstance (dv 0 rfl) (pe_bltn (by rfl) T.list (by decide +kernel) rfl) (k := true) (by rfl)))) (fun _ => dw_or1 (dt_eq (α := List Ln) (x := l0 :: ds) (y := []) hr (dv 0 rfl) (te_n (tn_nil rfl)))))) (by rw [eqB_false.mpr (show l0 :: ds ≠ [] by intro z; cases z)]; rfl)) (fun z => by cases z) (fun _ => ?_)
        refine d_let (i := 1) (α := Option Int) (y := none) nd (call1 (f := fun _ : Ln => (none : Option Int)) H_bn hr (arg (de_ix (ts_d (dv 0 rfl)) de_int (by show -(ds.length + 1 : Int) ≤ 0 ∧ 0 < (ds.length + 1 : Int); omega))) ⟨hok.1 l0 List.mem_cons_self, hbeg⟩) fun z hz => ?_
        subst hz
        exact d_ifr (k := true) (dt_isN (α := Int) (x := none) (dv 1 rfl)) (fun _ => d_raiseF rfl tk T.xo_BadLine H_i T.xn_BadLine hr T.g_BadLine de_int to_raised) (fun z => by cases z)
    | bad l0 ds n qs lb e hbeg h st hlb hput =>
      subst e
      rw [h] at hread
      cases hread
      have hds : ds.length ≤ 999 := by have := hok.2; rw [List.length_cons] at this; omega
      have hqs : qs.length < ds.length := (List.getElem?_eq_some_iff.mp hlb).1
      have ix0 : ixD (l0 :: ds) 0 = l0 := ixD_zero
      have arg : ∀ {Y : L2.Cx} {W : Res} {ρ : Ro} {e : Expr}, DE Y W e ρ (En (ixD (l0 :: ds) 0)) → DE Y W e ρ (En l0) := fun h => by
        rw [ix0] at h
        exact h
      refine d_ifr (k := false) (dtk (dt_w (dw_or (dt_not (dt_val (de_isi (T := "list") T.isinstance (dv 0 rfl) (pe_bltn (by rfl) T.list (by decide +kernel) rfl) (k := true) (by rfl)))) (fun _ => dw_or1 (dt_eq (α := List Ln) (x := l0 :: ds) (y := []) hr (dv 0 rfl) (te_n (tn_nil rfl)))))) (by rw [eqB_false.mpr (show l0 :: ds ≠ [] by intro z; cases z)]; rfl)) (fun z => by cases z) (fun _ => ?_)
      refine dx_set (i := 1) nd (dx_call (A := R0) (ds := []) H_b hr (da_cons (arg (de_ix (ts_d (dv 0 rfl)) de_int (by show -(ds.length + 1 : Int) ≤ 0 ∧ 0 < (ds.length + 1 : Int); omega))) da_nil rfl) (fun _ _ _ _ d hd => by cases hd) (fun _ _ _ _ => trivial) (fun _ _ _ _ _ => trivial) ⟨l0, n, rfl, rfl, ⟨hok.1 l0 List.mem_cons_self, hbeg⟩, rfl, rfl⟩) (fun d hd => by cases hd) (fun d hd => by cases hd) fun N W' r hP hN hne => ?_
      obtain ⟨W2, ⟨p, d, rfl, rfl, rfl, ndp⟩, rfl⟩ := hP
      have hp : H0 p = none := (hN p List.mem_cons_self).1
      have hd0 : H0 d = none := (hN d (List.mem_cons_of_mem _ List.mem_cons_self)).1
      refine d_res (W' := R0.and (WebR (He.ga K "Web") p ⟨d, n, []⟩)) (fun _ _ _ h => h.2) ?_
      refine d_ifr (dt_isNv (dv 1 rfl)) (fun z => by cases z) (fun _ => ?_)
      refine d_fold (js := [2, 3]) (enumF 0 (l0 :: ds)) (fun z => En z) (fun (b : Nat) (x : Int × Ln) => b + 1) (fun (pre : List (Int × Ln)) (b : Nat) => b = pre.length ∧ b ≤ qs.length + 1) (fun b => R0.and (WebR (He.ga K "Web") p ⟨d, n, qs.take (b - 1)⟩)) (fun b => [some (En (l0 :: ds)), some (.v (.ref p)), none, none]) (fun b x => [some (En (l0 :: ds)), some (.v (.ref p)), some (En x.1), some (En x.2)]) (0 : Nat) (passes_of rfl) rfl (ti_enum T.enumerate (dv 0 rfl)) (fun G H σ c => ⟨c.s, c.w, c.e.weak (.same (.same (.same (.same .nil))))⟩) ⟨rfl, Nat.zero_le _⟩ (fun b x hx => (dg_tup rfl (dgs_cons (dg_name (i := 2) nd) (dgs_cons (dg_name (i := 3) nd) dgs_nil)))) (fun G2 bk pre x post b hxs hb hiv hG hW2 => ?turn) (fun b hb hiv => ?after)
      case turn =>
        obtain ⟨xa, xl⟩ := enum_at hxs
        obtain ⟨hiv, hle⟩ := hiv
        have fin : b + 1 ≤ qs.length + 1 → ∀ σ H, At G0 H0 G2 (R0.and (WebR (He.ga K "Web") p ⟨d, n, qs.take (b + 1 - 1)⟩)) [some (En (l0 :: ds)), some (.v (.ref p)), some (En x.1), some (En x.2)] σ H → (b + 1 = (pre ++ [x]).length ∧ b + 1 ≤ qs.length + 1) ∧ At G0 H0 G2 (R0.and (WebR (He.ga K "Web") p ⟨d, n, qs.take (b + 1 - 1)⟩)) [some (En (l0 :: ds)), some (.v (.ref p)), none, none] σ H := fun hle σ H h => ⟨⟨by rw [List.length_append, ← hiv]; rfl, hle⟩, At.weak (.same (.same (.drop (.drop .nil)))) h⟩
        cases b with
        | zero =>
          have e0 : x.1 = 0 := by rw [xa, ← hiv]; rfl
          exact d_ifr (dt_w (dw_and (q := false) (dt_gt (dv 2 rfl) de_int) (fun z => by rw [e0] at z; cases z))) (fun z => by rw [Bool.and_false] at z; cases z) (fun _ => d_nil (fin (by omega)))
        | succ b =>
          have e1 : (0 : Int) < x.1 := by rw [xa, ← hiv]; show (0 : Int) < ((b + 1 : Nat) : Int); omega
          have q1 : (l0 :: ds)[b + 1]? = some x.2 := by rw [hiv]; exact xl
          rw [List.getElem?_cons_succ] at q1
          have hokl : okLn x.2 := hok.1 _ (List.mem_cons_of_mem _ (List.mem_of_getElem? q1))
          by_cases hb1 : b < qs.length
          · obtain ⟨l, q, h1, h2, tk2⟩ := take_next st hb1
            have hl2 : x.2 = l := by
              rw [h1] at q1
              exact (Option.some.inj q1).symm
            have tl : (qs.take b).length < 1000000 := by
              have := List.length_take_le b qs
              omega
            refine d_ifAndNotX (fun G H _ h z hz => by
              rw [List.mem_singleton.mp hz]
              exact ⟨_, h.2.2.2, fun _ z => nomatch z⟩) (dtk (dt_gt (dv 2 rfl) de_int) (decide_eq_true e1)) (dx_call (A := R0) (ds := [d]) H_p hr (da_cons (dv 1 rfl) (da_cons (dv 3 rfl) da_nil rfl) rfl) (fun G H _ h z hz => by
              rw [List.mem_singleton.mp hz]
              exact ⟨_, h.2.2.2, fun _ z => nomatch z⟩) (fun G H s h => h.2) (fun _ _ _ _ _ => trivial) ⟨p, ⟨d, n, qs.take b⟩, x.2, q, rfl, rfl, ⟨hokl, by rw [hl2]; exact h2, tl⟩, rfl, rfl⟩) (fun N W' r hP => by
              obtain ⟨W3, ⟨_, _, h⟩, _⟩ := hP
              exact h) (fun z hz => by
              rw [List.mem_singleton.mp hz]
              exact hd0) (fun z hz G H _ h => by
              rw [List.mem_singleton.mp hz]
              exact h.2.2.1) fun N W' r hP hN2 => ?_
            obtain ⟨W3, ⟨rfl, rfl, rfl⟩, rfl⟩ := hP
            refine d_nil fun σ H h => fin (by omega) σ H ?_
            show At G0 H0 G2 (R0.and (WebR (He.ga K "Web") p ⟨d, n, qs.take (b + 1)⟩)) _ σ H
            rw [tk2]
            exact h
          · have eb : b = qs.length := by omega
            have hl2 : x.2 = lb := by
              rw [eb, hlb] at q1
              exact (Option.some.inj q1).symm
            have et : qs.take (b + 1 - 1) = qs := by rw [Nat.add_sub_cancel, eb, List.take_length]
            have ex : x.1 = 1 + (qs.length : Int) := by rw [xa, ← hiv, eb]; omega
            have num : ∀ {Y : L2.Cx} {W : Res} {ρ : Ro} {e : Expr}, DE Y W e ρ (En x.1) → DE Y W e ρ (En (1 + (qs.length : Int))) := fun h => by
              rw [ex] at h
              exact h
            rw [et]
            refine d_ifr (dt_w (dw_and (dt_gt (dv 2 rfl) de_int) (fun _ => dw_and1 (dt_not (dt_val (og1 H_pn hr (dv 1 rfl) (s := WS.mk d n qs) (fun _ _ _ h => h.2) (dv 3 rfl) ⟨hokl, by rw [hl2]; exact hput⟩)))))) (fun _ => d_raiseF rfl tk T.xo_BadLine H_i T.xn_BadLine hr T.g_BadLine (num (dv 2 rfl)) (fun cls d σ H h => to_raised cls d σ H h)) (fun z => by rw [decide_eq_true e1] at z; cases z)
      case after =>
        exfalso
        have q := hiv.1
        have q2 := hiv.2
        rw [enum_len, List.length_cons] at q
        omega

abbrev Q_m_word_BadLine (P : Program) (w : World) (K : PySem.W.Frag) (mg : Str → Option Value) (base : Heap) : Prop := FnG P w K mg base 1 "_law_word" ["_law_e"] (O0 (fun p (k : Int) => ExcF (He.ga K "BadLine") "place" k p) (fun _ => True) (fun _ => m_word_BadLine))
abbrev nn_m_word_BadLine : List Str := ["_law_e", "_law_some", "_law_found", "_law_word_here", "_law_is_so"]
theorem sc_m_word_BadLine : FnScope nn_m_word_BadLine ["_law_e"] (defScope s_law_word) := ⟨rfl, rfl, rfl, by decide +kernel, rfl, by decide +kernel, by decide +kernel⟩
theorem ok_m_word_BadLine (T : Tx K mg)  : Q_m_word_BadLine P w K mg base := by
  refine fng_of T.d_m_word (fun _ _ _ _ _ _ us hl => match us, hl with | [_], _ => rfl) fun f fd F => fn_d F sc_m_word_BadLine O0.len ?_
  rintro cdv A outer s G0 H0 E ss W r hr ⟨p0, k0, rfl, rfl, hpre, rfl⟩
  have nd := sc_m_word_BadLine.nd
  have hpre : True := hpre
  refine d_res (W' := (R0.and (ExcF (He.ga K "BadLine") "place" k0 p0))) (fun _ _ _ h => ⟨trivial, h⟩) ?_
  refine d_letN (an_set (i := 1) nd (tn_k (.cons (de_pair de_str (de_isXF (f := "place") (n := k0) T.isinstance T.xe_BadLine (dv 0 rfl) (fun _ _ _ h => h.2) (pe_glob (v := .ref (He.ga K "BadCount")) (by rfl) T.g_BadCount rfl) (fun _ r => r) T.kit_BadLine_BadCount)) (.cons (de_pair de_str (de_isXF (f := "place") (n := k0) T.isinstance T.xe_BadLine (dv 0 rfl) (fun _ _ _ h => h.2) (pe_glob (v := .ref (He.ga K "BadLine")) (by rfl) T.g_BadLine rfl) (fun _ r => r) T.kit_BadLine_BadLine)) (.cons (de_pair de_str (de_isXF (f := "place") (n := k0) T.isinstance T.xe_BadLine (dv 0 rfl) (fun _ _ _ h => h.2) (pe_glob (v := .ref (He.ga K "BadWeb")) (by rfl) T.g_BadWeb rfl) (fun _ r => r) T.kit_BadLine_BadWeb)) .nil (by rfl)) (by rfl)) (by rfl)))) fun someV hsomeV => ?_
  refine d_letN (an_set (i := 1) nd (tn_cat (ts_d (dv 1 rfl)) (ts_n (tn_2 (de_pair de_str (de_isXF (f := "place") (n := k0) T.isinstance T.xe_BadLine (dv 0 rfl) (fun _ _ _ h => h.2) (pe_glob (v := .ref (He.ga K "BadStanding")) (by rfl) T.g_BadStanding rfl) (fun _ r => r) T.kit_BadLine_BadStanding)) (de_pair de_str (de_isXF (f := "place") (n := k0) T.isinstance T.xe_BadLine (dv 0 rfl) (fun _ _ _ h => h.2) (pe_glob (v := .ref (He.ga K "BadTie")) (by rfl) T.g_BadTie rfl) (fun _ r => r) T.kit_BadLine_BadTie)))) ?s1)) fun someV1 hsomeV1 => ?_
  case s1 =>
    subst_vars
    decide +kernel
  refine d_letN (an_set (i := 1) nd (tn_cat (ts_d (dv 1 rfl)) (ts_n (tn_2 (de_pair de_str (de_isXF (f := "place") (n := k0) T.isinstance T.xe_BadLine (dv 0 rfl) (fun _ _ _ h => h.2) (pe_glob (v := .ref (He.ga K "NoPoint")) (by rfl) T.g_NoPoint rfl) (fun _ r => r) T.kit_BadLine_NoPoint)) (de_pair de_str (de_isXF (f := "place") (n := k0) T.isinstance T.xe_BadLine (dv 0 rfl) (fun _ _ _ h => h.2) (pe_glob (v := .ref (He.ga K "TooMany")) (by rfl) T.g_TooMany rfl) (fun _ r => r) T.kit_BadLine_TooMany)))) ?s2)) fun someV2 hsomeV2 => ?_
  case s2 =>
    subst_vars
    decide +kernel
  refine d_letN (i := 2) (xs := (List.map (fun yword => yword.1) (List.filter (fun yword => yword.2) someV2))) ?an9 fun found hfound => ?_
  case an9 =>
    refine (an_lc (i := 2) [("_law_word_here", 3), ("_law_is_so", 4)] someV2 (fun yword => En yword) (fun yword => yword.2) (fun yword => yword.1) (fun yword => [some (.v (.ref p0)), some (En someV2), none, some (En yword.1), some (En yword.2)]) rfl nd (dih_g (ti_list (dv 1 rfl))) (blkOk_by (N := nn_m_word_BadLine) (sc := defScope s_law_word) (by decide +kernel)) (fun yword hyword _ _ _ _ _ => (dg_tup rfl (dgs_cons (dg_name (i := 3) nd) (dgs_cons (dg_name (i := 4) nd) dgs_nil)))) (fun yword hyword _ _ _ _ _ => dts_one (dt_val (dv 4 rfl))) (fun yword hyword hb1 _ _ _ _ _ => (dv 3 rfl)))
  refine d_ret (s := En (found ++ (rep (b2n (true && ((!true) || (!true)))) [(Str.ofString "else")]))) (te_n (tn_cat (ts_d (dv 2 rfl)) (ts_n (tn_rep (tn_1 de_str) (de_intb T.int (de_and (de_notNv (dv 0 rfl)) (fun hb2 => (de_one (de_or (de_not (de_isXF (f := "place") (n := k0) T.isinstance T.xe_BadLine (dv 0 rfl) (fun _ _ _ h => h.2) (pe_glob (v := .ref (He.ga K "HuntError")) (by rfl) T.g_HuntError rfl) (fun _ r => r) T.kit_BadLine_HuntError)) (fun hb3 => (de_one (de_not (de_isXF (f := "place") (n := k0) (c := .ty "ValueError") (cv := .type "ValueError") T.isinstance T.xe_BadLine (dv 0 rfl) (fun _ _ _ h => h.2) (pe_bltn (by rfl) T.ValueError (by decide +kernel) rfl) (fun _ r => r) T.kit_BadLine_ValueError))))))))) ?s3 ?s4 ?s5)) ?s6)) fun v G' H' g r => ⟨G', g, ?fin⟩
  case s3 =>
    subst_vars
    decide +kernel
  case s4 =>
    subst_vars
    decide +kernel
  case s5 =>
    subst_vars
    decide +kernel
  case s6 =>
    subst_vars
    decide +kernel
  case fin =>
    have e : m_word_BadLine  = (found ++ (rep (b2n (true && ((!true) || (!true)))) [(Str.ofString "else")])) := by
      subst_vars
      first | rfl | (simp only [m_word_BadLine, cond_true, cond_false]; done) | (simp [m_word_BadLine]; done)
    rw [e]
    exact r
/-! by hand: _law_told -/
abbrev nn_m_told : List Str := ["_law_lines", "_law_caught", "_law_found", "_law_e"]
theorem sc_m_told : FnScope nn_m_told ["_law_lines"] (defScope s_law_told) := ⟨rfl, rfl, rfl, by decide +kernel, rfl, by decide +kernel, by decide +kernel⟩
theorem tr_web {X : L2.Cx} {W : Res} {e : Expr} {ρ : Ro} {n : Int} {ps : List (Int × Int)} (h : DE X W e ρ (En (n, ps))) : DE X W e ρ (En (Tr.web n ps)) := h
theorem tr_at {X : L2.Cx} {W : Res} {e : Expr} {ρ : Ro} {n : Int} (h : DE X W e ρ (En n)) : DE X W e ρ (En (Tr.at n)) := h
theorem word_line : m_word_BadLine = [Str.ofString "line"] := by decide +kernel
theorem put_good {n : Int} {ps : List (Int × Int)} {d : Ln} {q : Int × Int} (h : putL n ps d = some q) : q ∉ ps := by
  unfold putL at h
  split at h
  · cases h
  · split at h
    · split at h
      · rename_i c
        cases h
        exact c.2.2.2
      · cases h
    · cases h
/-- told, where it is refused -/
theorem told_bad {P : Program} {w : World} {K : PySem.W.Frag} {mg : Str → Option Value} {base : Heap} {cdv : Value} {A : Around} {outer : List Env} {s : Shared} {G0 H0 : Hp} {E : XK} {f : Addr} (T : Tx K mg) (H_x : Q_m_web_ofX P w K mg base) (H_w : Q_m_word_BadLine P w K mg base)
    (hr : Room 9 (A.deeper (envOfC "_law_told" (defScope s_law_told) s.heap.objs.size f cdv))) (d : PyData) (k : Int) (hb : BadAt d k) :
    DSs (cxOf L2.CX0 P w K mg base nn_m_told "_law_told" (defScope s_law_told) f cdv A outer s H0 E).nox (defBody s_law_told) (At G0 H0 G0 R0 (startR nn_m_told [.d d])) { nx := fun _ H' => ∃ G', Gw G0 H0 G' H' ∧ RepS G' .non (En (Tr.at k)), rt := rtD G0 H0 (En (Tr.at k)) } := by
  have nd := sc_m_told.nd
  refine d_let (i := 1) (α := Option Int) (y := none) nd de_non fun caught hcaught => ?_
  subst hcaught
  refine d_let (i := 2) (α := Option Int) (y := none) nd de_non fun found hfound => ?_
  subst hfound
  refine d_tryKF (i := 3) (j := 1) (f := "place") (k0 := k) (c := .ref (He.ga K "HuntError")) (C := He.ga K "BadLine") rfl rfl rfl nd takes_no ⟨rfl, by decide, .inl T.g_HuntError⟩ T.exm_BadLine (by decide) (fun pn xe tk => ?body) (fun a ha => ?rest)
  case body => exact d_setRF (i := 2) nd (rx_callF H_x tk hr (da_cons (dv 0 rfl) da_nil rfl) (fun _ _ _ _ => trivial) ⟨d, rfl, rfl, hb, rfl⟩) (fun _ _ _ _ h => h)
  case rest =>
    refine d_ifr (dt_isNv (dv 1 rfl)) (fun z => by cases z) (fun _ => ?_)
    refine d_ret (s := En (Tr.at k)) (de_if (p := true) (dtk (dt_w (dw_and (dt_eq (α := List Str) (x := m_word_BadLine) (y := [Str.ofString "line"]) hr (og0 (f := fun (_ : Int) => m_word_BadLine) (s := k) H_w hr (dv 1 rfl) (fun _ _ _ h => h.2) trivial) (te_n (tn_1 de_str))) (fun _ => dw_and1 (dt_not (dt_val (de_isi (d := .int k) (T := "bool") T.isinstance (de_xf T.xe_BadLine T.xn_BadLine (dv 1 rfl) (fun _ _ _ h => h.2)) (pe_bltn (by rfl) T.bool (by decide +kernel) rfl) (k := false) (by rfl))))))) (by rw [eqB_true.mpr word_line]; rfl)) (fun _ => de_xf T.xe_BadLine T.xn_BadLine (dv 1 rfl) (fun _ _ _ h => h.2)) (fun z => by cases z)) fun v G' H' g r => ⟨G', g, r⟩
abbrev Q_m_told (P : Program) (w : World) (K : PySem.W.Frag) (mg : Str → Option Value) (base : Heap) : Prop := FnG P w K mg base 10 "_law_told" ["_law_lines"] (R1 okLs readT)
theorem ok_m_told (T : Tx K mg) (H_o : Q_m_web_of P w K mg base) (H_x : Q_m_web_ofX P w K mg base) (H_w : Q_m_word_BadLine P w K mg base) (H_m : Q_m_Web_many P w K mg base) (H_t : Q_m_Web_ties P w K mg base) : Q_m_told P w K mg base := by
  refine fng_of T.d_m_told (fun _ _ _ _ _ _ us hl => match us, hl with | [_], _ => rfl) fun f fd F => fn_d F sc_m_told R1.len ?_
  rintro cdv A outer s G0 H0 E ss W r hr ⟨ls, rfl, hok, rfl⟩
  have nd := sc_m_told.nd
  refine d_res (W' := R0) (fun _ _ _ _ => trivial) ?_
  have bad : ∀ k, readT ls = .at k → DSs (cxOf L2.CX0 P w K mg base nn_m_told "_law_told" (defScope s_law_told) f cdv A outer s H0 E).nox (defBody s_law_told) (At G0 H0 G0 R0 (startR nn_m_told [En ls])) { nx := fun _ H' => ∃ G', Gw G0 H0 G' H' ∧ RepS G' .non (En (readT ls)), rt := rtD G0 H0 (En (readT ls)) } := fun k hk => by
    rw [hk]
    exact told_bad T H_x H_w hr _ k (.ls ls k hok hk)
  cases rdC ls with
  | first h e => exact bad _ h
  | bad d ds n qs b e hn h st hb hp => exact bad _ h
  | good d ds n qs e hn h st hl =>
    rw [h]
    refine d_let (i := 1) (α := Option Int) (y := none) nd de_non fun caught hcaught => ?_
    subst hcaught
    refine d_let (i := 2) (α := Option Int) (y := none) nd de_non fun found hfound => ?_
    subst hfound
    refine d_tryN (M := fun σ H => ∃ p d, At G0 H0 G0 (R0.and (WebR (He.ga K "Web") p ⟨d, n, qs⟩)) [some (En ls), some (En (none : Option Int)), some (.v (.ref p)), none] σ H) ?body (d_ex fun p => d_ex fun d => ?rest)
    case body =>
      refine dx_set (i := 2) nd (dx_call (A := R0) (ds := []) H_o hr (da_cons (dv 0 rfl) da_nil rfl) (fun _ _ _ _ d hd => by cases hd) (fun _ _ _ _ => trivial) (fun _ _ _ _ _ => trivial) ⟨ls, n, qs, rfl, rfl, ⟨hok, d, ds, e, hn, st, hl⟩, rfl, rfl⟩) (fun d hd => by cases hd) (fun d hd => by cases hd) fun N W' r hP hN hne => ?_
      obtain ⟨W2, ⟨p, d, rfl, rfl, rfl, ndp⟩, rfl⟩ := hP
      exact d_res (W' := R0.and (WebR (He.ga K "Web") p ⟨d, n, qs⟩)) (fun _ _ _ h => h.2) (d_nil fun σ H h => ⟨p, d, h⟩)
    case rest =>
      refine d_ifr (k := true) (dt_isN (α := Int) (x := none) (dv 1 rfl)) (fun _ => ?_) (fun z => by cases z)
      have hne : n = n := rfl
      refine d_ret (s := En (Tr.web n (srt qs))) (de_if (p := true) (dt_val (de_isO (m := "many") (s := WS.mk d n qs) T.isinstance T.cl_Web T.ob_Web (web_is _) (dv 2 rfl) (fun _ _ _ h => h.2) T.g_Web)) (fun _ => tr_web (de_pair (x := m_Web_many (WS.mk d n qs)) (y := m_Web_ties (WS.mk d n qs)) (om0 (s := WS.mk d n qs) H_m T.cl_Web (web_is _) hr (dv 2 rfl) (fun _ _ _ h => h.2) trivial) (te_n (on0 (s := WS.mk d n qs) H_t T.cl_Web (web_is _) hr (dv 2 rfl) (fun _ _ _ h => h.2) trivial)))) (fun z => by cases z)) fun v G' H' g r => ⟨G', g, r⟩
/-- told of what is no list -/
abbrev Q_m_toldD (P : Program) (w : World) (K : PySem.W.Frag) (mg : Str → Option Value) (base : Heap) : Prop := FnG P w K mg base 10 "_law_told" ["_law_lines"] (RA1 (fun d => BadAt d 0) (fun _ => Tr.at 0))
theorem ok_m_toldD (T : Tx K mg) (H_x : Q_m_web_ofX P w K mg base) (H_w : Q_m_word_BadLine P w K mg base) : Q_m_toldD P w K mg base := by
  refine fng_of T.d_m_told (fun _ _ _ _ _ _ us hl => match us, hl with | [_], _ => rfl) fun f fd F => fn_d F sc_m_told RA1.len ?_
  rintro cdv A outer s G0 H0 E ss W r hr ⟨d, rfl, hb, rfl⟩
  refine d_res (W' := R0) (fun _ _ _ _ => trivial) ?_
  exact told_bad T H_x H_w hr d 0 hb

/-! by hand: _law_number, _law_read -/
abbrev nn_m_lnum : List Str := ["_law_word_here", "_law_some", "_law_number_here"]
theorem sc_m_lnum : FnScope nn_m_lnum ["_law_word_here"] (defScope s_law_number) := ⟨rfl, rfl, rfl, by decide +kernel, rfl, by decide +kernel, by decide +kernel⟩
abbrev Q_m_lnum (P : Program) (w : World) (K : PySem.W.Frag) (mg : Str → Option Value) (base : Heap) : Prop := FnG P w K mg base 1 "_law_number" ["_law_word_here"] (R1 (fun _ => True) m_number_of)
theorem log_100 {i : Int} (h : 0 ≤ i ∧ i < 100) : i.natAbs.log2 < 1920 := by
  have h1 : i.natAbs < 128 := by omega
  by_cases z : i.natAbs = 0
  · rw [z]
    decide
  · have := (Nat.log2_lt z (k := 7)).mpr h1
    omega
theorem ok_m_lnum (T : Tx K mg) : Q_m_lnum P w K mg base := by
  refine fng_of T.d_m_lnum (fun _ _ _ _ _ _ us hl => match us, hl with | [_], _ => rfl) fun f fd F => fn_d F sc_m_lnum R1.len ?_
  rintro cdv A outer s G0 H0 E ss W r hr ⟨wd, rfl, _, rfl⟩
  have nd := sc_m_lnum.nd
  refine d_res (W' := R0) (fun _ _ _ _ => trivial) ?_
  refine d_letN (i := 1) (xs := texts100) ?an fun some' hsome => ?_
  case an => exact an_lc0 (i := 1) [("_law_number_here", 2)] (rng 0 100) (fun y => En y) (fun y => strI y) (fun y => [some (En wd), none, some (En y)]) rfl nd (dih_g (dig_rng1 T.range de_int (by decide))) (blkOk_by (N := nn_m_lnum) (sc := defScope s_law_number) (by decide +kernel)) (fun y hy _ _ _ _ _ => (dg_name (i := 2) nd)) (fun y hy _ _ _ _ _ => de_strI T.str (dv 2 rfl) (log_100 (mem_rng.mp hy)))
  subst hsome
  refine d_ret (s := En (m_number_of wd)) (de_if (dt_in (α := Str) (x := wd) (xs := texts100) hr (dv 0 rfl) (ts_d (dv 1 rfl))) (fun h => ?yes) (fun h => ?no)) fun v G' H' g r => ⟨G', g, r⟩
  case yes =>
    obtain ⟨j, hj, rfl, e⟩ := num_mem (memB_true.mp h)
    rw [e]
    exact de_indexS (xs := texts100) (ts_d (dv 1 rfl)) (dv 0 rfl) (texts_get hj) (fun m hm => texts_first hj hm)
  case no =>
    rw [num_nomem (memB_false.mp h)]
    exact de_non

/-! by hand: _law_read -/
/-! the lines behind one another -/
abbrev nn_m_read : List Str := ["_law_lines", "_law_pairs_here", "_law_many", "_law_place", "_law_line", "_law_words", "_law_numbers", "_law_word_here"]
theorem sc_m_read : FnScope nn_m_read ["_law_lines"] (defScope s_law_read) := ⟨rfl, rfl, rfl, by decide +kernel, rfl, by decide +kernel, by decide +kernel⟩
def loopB : List Stmt → List Stmt
  | _ :: _ :: .For _ _ b _ _ :: _ => b
  | _ => []
theorem o2_0 {α : Type} [DecidableEq α] [Datum α] [Inhabited α] {Y : L2.Cx} {W : Res} {ρ : Ro} {e b : Expr} {z : Pos} {x y : α} (he : DE Y W e ρ (En [x, y])) (hb : DE Y W b ρ (En (0 : Int))) (hs : PlainIx b := by intro _ _; rfl) : DE Y W (.Subscript e b z) ρ (En x) :=
  de_ix (xs := [x, y]) (ts_d he) hb (by show -(2 : Int) ≤ _ ∧ _ < (2 : Int); omega) hs
theorem o2_1 {α : Type} [DecidableEq α] [Datum α] [Inhabited α] {Y : L2.Cx} {W : Res} {ρ : Ro} {e b : Expr} {z : Pos} {x y : α} (he : DE Y W e ρ (En [x, y])) (hb : DE Y W b ρ (En (1 : Int))) (hs : PlainIx b := by intro _ _; rfl) : DE Y W (.Subscript e b z) ρ (En y) :=
  de_ix (xs := [x, y]) (ts_d he) hb (by show -(2 : Int) ≤ _ ∧ _ < (2 : Int); omega) hs
theorem len_two (a b : Str) : (!eqB ((([a, b] : List Str).length : Nat) : Int) 2) = false := by
  rw [show eqB ((([a, b] : List Str).length : Nat) : Int) 2 = true from eqB_true.mpr rfl]
  rfl
theorem some_k {Y : L2.Cx} {W : Res} {ρ : Ro} {e : Expr} {k : Int} (h : DE Y W e ρ (En (some k))) : DE Y W e ρ (En k) := h
theorem ints_2 {Y : L2.Cx} {W : Res} {ρ : Ro} {e : Expr} {i j : Int} (h : DE Y W e ρ (En [some i, some j])) : DE Y W e ρ (En [i, j]) := h
theorem pair_2 {Y : L2.Cx} {W : Res} {ρ : Ro} {e : Expr} {i j : Int} (h : DE Y W e ρ (En (Tup.mk (srt [i, j])))) : DE Y W e ρ (En (pr i j)) := by
  rw [srt_two] at h
  exact h
abbrev Xrd (P : Program) (w : World) (K : PySem.W.Frag) (mg : Str → Option Value) (base : Heap) (f : Addr) (cdv : Value) (A : Around) (outer : List Env) (s : Shared) (H0 : Hp) (E : XK) : L2.Cx := (cxOf L2.CX0 P w K mg base nn_m_read "_law_read" (defScope s_law_read) f cdv A outer s H0 E).nox
section
variable {cdv : Value} {A : Around} {outer : List Env} {s : Shared} {G0 H0 G2 : Hp} {E : XK} {f : Addr} {D : Ends} {p : Addr} {ls : List Ln} {d : Ln} {n : Int} {qs : List (Int × Int)}
/-- the words and the numbers of a line -/
theorem read_go (T : Tx K mg) (H_n : Q_m_lnum P w K mg base) (hr : Room 9 (A.deeper (envOfC "_law_read" (defScope s_law_read) s.heap.objs.size f cdv))) {many place : Int} {ps : List (Int × Int)} (hok : okLn d) {s1 s2 : Stmt} {rest : List Stmt} (e : loopB (defBody s_law_read) = s1 :: s2 :: rest)
    (k : DSs (Xrd P w K mg base f cdv A outer s H0 E) rest (At G0 H0 G2 (R0.and (Own p (ps.map Datum.toD))) [some (En ls), some (.v (.ref p)), some (En many), some (En place), some (En d), some (En (splitL d)), some (En ((splitL d).map m_number_of)), none]) D) :
    DSs (Xrd P w K mg base f cdv A outer s H0 E) (loopB (defBody s_law_read)) (At G0 H0 G2 (R0.and (Own p (ps.map Datum.toD))) [some (En ls), some (.v (.ref p)), some (En many), some (En place), some (En d), none, none, none]) D := by
  have nd := sc_m_read.nd
  have kk : ∀ {z1 z2 : Stmt} {r : List Stmt}, loopB (defBody s_law_read) = z1 :: z2 :: r → r = rest := fun h => by
    rw [h] at e
    injection e with _ e
    injection e
  refine d_let (i := 5) (α := List Str) (y := splitL d) nd ?w fun words hw => ?_
  case w =>
    cases d with
    | s x => exact de_if (p := true) (dt_val (de_isi (T := "str") T.isinstance (dv 4 rfl) (pe_bltn (by rfl) T.str (by decide +kernel) rfl) (k := true) (by rfl))) (fun _ => te_n (tn_split (x := x) (dv 4 rfl) de_str (by decide) hok)) (fun z => by cases z)
    | n => exact de_if (p := false) (dt_val (de_isi (T := "str") T.isinstance (dv 4 rfl) (pe_bltn (by rfl) T.str (by decide +kernel) rfl) (k := false) (by rfl))) (fun z => by cases z) (fun _ => te_n (tn_nil rfl))
    | i k => exact de_if (p := false) (dt_val (de_isi (T := "str") T.isinstance (dv 4 rfl) (pe_bltn (by rfl) T.str (by decide +kernel) rfl) (k := false) (by rfl))) (fun z => by cases z) (fun _ => te_n (tn_nil rfl))
    | l xs => exact de_if (p := false) (dt_val (de_isi (T := "str") T.isinstance (dv 4 rfl) (pe_bltn (by rfl) T.str (by decide +kernel) rfl) (k := false) (by rfl))) (fun z => by cases z) (fun _ => te_n (tn_nil rfl))
  subst hw
  refine d_letN (i := 6) (xs := (splitL d).map m_number_of) ?nums fun numbers hnum => ?_
  case nums => exact an_lc0 (i := 6) [("_law_word_here", 7)] (splitL d) (fun y => En y) (fun y => m_number_of y) (fun y => [some (En ls), some (.v (.ref p)), some (En many), some (En place), some (En d), some (En (splitL d)), none, some (En y)]) rfl nd (dih_g (ti_list (dv 5 rfl))) (blkOk_by (N := nn_m_read) (sc := defScope s_law_read) (by decide +kernel)) (fun y hy _ _ _ _ _ => (dg_name (i := 7) nd)) (fun y hy _ _ _ _ _ => call1 H_n hr (dv 7 rfl) trivial)
  subst hnum
  have er := kk rfl
  rw [er]
  exact k

/-- the first line -/
theorem read_first (T : Tx K mg) (H_n : Q_m_lnum P w K mg base) (hr : Room 9 (A.deeper (envOfC "_law_read" (defScope s_law_read) s.heap.objs.size f cdv))) {ps : List (Int × Int)} (hok : okLn d)
    (hnone : begL d = none → ∀ v H', rtD G0 H0 (En (Tr.at 0)) v H' → D.rt v H')
    (hsome : ∀ n, begL d = some n → ∀ σ H, At G0 H0 G2 (R0.and (Own p (ps.map Datum.toD))) [some (En ls), some (.v (.ref p)), some (En n), none, none, none, none, none] σ H → D.nx σ H) :
    DSs (Xrd P w K mg base f cdv A outer s H0 E) (loopB (defBody s_law_read)) (At G0 H0 G2 (R0.and (Own p (ps.map Datum.toD))) [some (En ls), some (.v (.ref p)), some (En (0 : Int)), some (En (0 : Int)), some (En d), none, none, none]) D := by
  have nd := sc_m_read.nd
  refine read_go T H_n hr hok rfl ?_
  refine d_if (k := true) (M := D.nx) (dtk (dt_eq (α := Int) (x := 0) (y := 0) hr (dv 3 rfl) de_int) (eqB_true.mpr rfl)) (fun _ => ?_) (fun z => by cases z) (d_nil fun _ _ z => z)
  have zero : begL d = none → ∀ v G' H', Gw G0 H0 G' H' → RepS G' v (En (Tr.at 0)) → D.rt v H' := fun h v G' H' g r => hnone h v H' ⟨G', g, r⟩
  cases hw : wordsL d with
  | none =>
    have hb : begL d = none := by
      unfold begL
      rw [hw]
    exact d_ifr (k := true) (dt_w (dw_or (p := true) (q := false) (dtk (dt_ne (α := Int) hr (te_len T.len (ts_d (dv 5 rfl))) de_int) (by rw [eqB_false.mpr (wordsL_no hw)]; rfl)) (fun z => by cases z))) (fun _ => d_ret (s := En (Tr.at 0)) (tr_at de_int) (zero hb)) (fun z => by cases z)
  | some ws =>
    obtain ⟨a, b, rfl, hal, hbl⟩ := wordsL_two hok hw
    have es := wordsL_yes hw
    rw [es]
    show DSs _ _ (At G0 H0 G2 (R0.and (Own p (ps.map Datum.toD))) [some (En ls), some (.v (.ref p)), some (En (0 : Int)), some (En (0 : Int)), some (En d), some (En [a, b]), some (En [m_number_of a, m_number_of b]), none]) _
    cases hb : begL d with
    | none =>
      rcases begL_none hok hb with z | ⟨a2, b2, z, _, _, why⟩
      · rw [hw] at z
        cases z
      · rw [hw] at z
        cases z
        have more : a = Str.ofString "points" → ∀ k, m_number_of b = some k → ¬ (1 ≤ k ∧ k ≤ 12) := fun ha k hk => by
          rcases why with q | ⟨_, q⟩
          · exact absurd ha q
          · rcases q with q | ⟨n, q1, q2⟩
            · rw [q] at hk
              cases hk
            · rw [q1] at hk
              cases hk
              exact q2
        by_cases ha : a = Str.ofString "points"
        · subst ha
          cases hn : m_number_of b with
          | none => exact d_ifr (k := true) (dt_w (dw_or (p := false) (q := true) (dtk (dt_ne (α := Int) (x := ((([Str.ofString "points", b] : List Str).length : Nat) : Int)) (y := 2) hr (te_len (xs := ([Str.ofString "points", b] : List Str)) T.len (ts_d (dv 5 rfl))) de_int) (len_two _ b)) (fun _ => dw_or (p := false) (q := true) (dtk (dt_ne (α := Str) (x := Str.ofString "points") (y := Str.ofString "points") hr (o2_0 (dv 5 rfl) de_int) de_str) (by rw [eqB_true.mpr rfl]; rfl)) (fun _ => dw_or (p := true) (q := false) (dt_isN (α := Int) (x := none) (o2_1 (dv 6 rfl) de_int)) (fun z => by cases z))))) (fun _ => d_ret (s := En (Tr.at 0)) (tr_at de_int) (zero hb)) (fun z => by cases z)
          | some k =>
            have hk := more rfl k hn
            exact d_ifr (k := true) (dt_w (dw_or (p := false) (q := true) (dtk (dt_ne (α := Int) (x := ((([Str.ofString "points", b] : List Str).length : Nat) : Int)) (y := 2) hr (te_len (xs := ([Str.ofString "points", b] : List Str)) T.len (ts_d (dv 5 rfl))) de_int) (len_two _ b)) (fun _ => dw_or (p := false) (q := true) (dtk (dt_ne (α := Str) (x := Str.ofString "points") (y := Str.ofString "points") hr (o2_0 (dv 5 rfl) de_int) de_str) (by rw [eqB_true.mpr rfl]; rfl)) (fun _ => dw_or (p := false) (q := true) (dt_isN (α := Int) (x := some k) (o2_1 (dv 6 rfl) de_int)) (fun _ => dw_or1 (dtk (dt_not (dt_le_le (i := 1) (j := k) (k := 12) de_int (some_k (o2_1 (dv 6 rfl) de_int)) de_int)) (by
              rw [Bool.not_eq_true', Bool.and_eq_false_iff, decide_eq_false_iff_not, decide_eq_false_iff_not]
              omega))))))) (fun _ => d_ret (s := En (Tr.at 0)) (tr_at de_int) (zero hb)) (fun z => by cases z)
        · exact d_ifr (k := true) (dt_w (dw_or (p := false) (q := true) (dtk (dt_ne (α := Int) (x := ((([a, b] : List Str).length : Nat) : Int)) (y := 2) hr (te_len (xs := ([a, b] : List Str)) T.len (ts_d (dv 5 rfl))) de_int) (len_two a b)) (fun _ => dw_or (p := true) (q := false) (dtk (dt_ne (α := Str) (x := a) (y := Str.ofString "points") hr (o2_0 (dv 5 rfl) de_int) de_str) (by rw [eqB_false.mpr ha]; rfl)) (fun z => by cases z)))) (fun _ => d_ret (s := En (Tr.at 0)) (tr_at de_int) (zero hb)) (fun z => by cases z)
    | some n =>
      obtain ⟨b2, z, hn, hk, _⟩ := begL_some hok hb
      rw [hw] at z
      cases z
      rw [hn]
      refine d_ifr (k := false) (dt_w (dw_or (p := false) (q := false) (dtk (dt_ne (α := Int) (x := ((([Str.ofString "points", b] : List Str).length : Nat) : Int)) (y := 2) hr (te_len (xs := ([Str.ofString "points", b] : List Str)) T.len (ts_d (dv 5 rfl))) de_int) (len_two _ b)) (fun _ => dw_or (p := false) (q := false) (dtk (dt_ne (α := Str) (x := Str.ofString "points") (y := Str.ofString "points") hr (o2_0 (dv 5 rfl) de_int) de_str) (by rw [eqB_true.mpr rfl]; rfl)) (fun _ => dw_or (p := false) (q := false) (dt_isN (α := Int) (x := some n) (o2_1 (dv 6 rfl) de_int)) (fun _ => dw_or1 (dtk (dt_not (dt_le_le (i := 1) (j := n) (k := 12) de_int (some_k (o2_1 (dv 6 rfl) de_int)) de_int)) (by
        rw [Bool.not_eq_false', Bool.and_eq_true, decide_eq_true_eq, decide_eq_true_eq]
        exact hk))))))) (fun z => by cases z) (fun _ => ?_)
      refine d_let (i := 2) (α := Int) (y := n) nd (some_k (o2_1 (dv 6 rfl) de_int)) fun z hz => ?_
      subst hz
      exact d_nil fun σ H h => hsome _ hb σ H (At.weak (.same (.same (.same (.drop (.drop (.drop (.drop (.same .nil)))))))) h)
/-- a further line -/
theorem read_next (T : Tx K mg) (H_n : Q_m_lnum P w K mg base) (hr : Room 9 (A.deeper (envOfC "_law_read" (defScope s_law_read) s.heap.objs.size f cdv))) {ps : List (Int × Int)} {place : Int} (hok : okLn d) (hpl : place ≠ 0) (hp0 : H0 p = none) (hp2 : G2 p = none) (hlen : ps.length < 1000000)
    (hnone : putL n ps d = none → ∀ v H', rtD G0 H0 (En (Tr.at place)) v H' → D.rt v H')
    (hsome : ∀ q, putL n ps d = some q → ∀ σ H, At G0 H0 G2 (R0.and (Own p ((ps ++ [q]).map Datum.toD))) [some (En ls), some (.v (.ref p)), some (En n), none, none, none, none, none] σ H → D.nx σ H) :
    DSs (Xrd P w K mg base f cdv A outer s H0 E) (loopB (defBody s_law_read)) (At G0 H0 G2 (R0.and (Own p (ps.map Datum.toD))) [some (En ls), some (.v (.ref p)), some (En n), some (En place), some (En d), none, none, none]) D := by
  have nd := sc_m_read.nd
  refine read_go T H_n hr hok rfl ?_
  refine d_if (k := false) (M := D.nx) (dtk (dt_eq (α := Int) (x := place) (y := 0) hr (dv 3 rfl) de_int) (eqB_false.mpr hpl)) (fun z => by cases z) (fun _ => ?_) (d_nil fun _ _ z => z)
  have back : putL n ps d = none → ∀ v G' H', Gw G0 H0 G' H' → RepS G' v (En (Tr.at place)) → D.rt v H' := fun h v G' H' g r => hnone h v H' ⟨G', g, r⟩
  cases hw : wordsL d with
  | none =>
    have hb : putL n ps d = none := by
      unfold putL
      rw [hw]
    exact d_ifr (k := true) (dt_w (dw_or (p := true) (q := false) (dtk (dt_ne (α := Int) hr (te_len T.len (ts_d (dv 5 rfl))) de_int) (by rw [eqB_false.mpr (wordsL_no hw)]; rfl)) (fun z => by cases z))) (fun _ => d_ret (s := En (Tr.at place)) (tr_at (dv 3 rfl)) (back hb)) (fun z => by cases z)
  | some ws =>
    obtain ⟨a, b, rfl, hal, hbl⟩ := wordsL_two hok hw
    have es := wordsL_yes hw
    rw [es]
    show DSs _ _ (At G0 H0 G2 (R0.and (Own p (ps.map Datum.toD))) [some (En ls), some (.v (.ref p)), some (En n), some (En place), some (En d), some (En [a, b]), some (En [m_number_of a, m_number_of b]), none]) _
    by_cases hin : (none : Option Int) ∈ [m_number_of a, m_number_of b]
    · have hb : putL n ps d = none := by
        unfold putL
        rw [hw]
        show (match m_number_of a, m_number_of b with
          | some a, some b => if (0 ≤ a ∧ a < n) ∧ (0 ≤ b ∧ b < n) ∧ a ≠ b ∧ pr a b ∉ ps then some (pr a b) else none
          | _, _ => none) = none
        rcases List.mem_cons.mp hin with z | z
        · rw [← z]
        · rw [← List.mem_singleton.mp z]
          cases m_number_of a <;> rfl
      exact d_ifr (k := true) (dt_w (dw_or (p := false) (q := true) (dtk (dt_ne (α := Int) (x := ((([a, b] : List Str).length : Nat) : Int)) (y := 2) hr (te_len (xs := ([a, b] : List Str)) T.len (ts_d (dv 5 rfl))) de_int) (len_two a b)) (fun _ => dw_or (p := true) (q := false) (dtk (dt_in (α := Option Int) (x := none) (xs := [m_number_of a, m_number_of b]) hr de_non (ts_d (dv 6 rfl))) (memB_true.mpr hin)) (fun z => by cases z)))) (fun _ => d_ret (s := En (Tr.at place)) (tr_at (dv 3 rfl)) (back hb)) (fun z => by cases z)
    · cases hna : m_number_of a with
      | none => exact absurd (by rw [hna]; exact List.mem_cons_self) hin
      | some i =>
        cases hnb : m_number_of b with
        | none => exact absurd (by rw [hnb]; exact List.mem_cons_of_mem _ List.mem_cons_self) hin
        | some j =>
          have i0 := num_nn hna
          have j0 := num_nn hnb
          rw [hna, hnb] at hin
          have eput : putL n ps d = if (0 ≤ i ∧ i < n) ∧ (0 ≤ j ∧ j < n) ∧ i ≠ j ∧ pr i j ∉ ps then some (pr i j) else none := by
            unfold putL
            rw [hw]
            show (match m_number_of a, m_number_of b with
              | some a, some b => if (0 ≤ a ∧ a < n) ∧ (0 ≤ b ∧ b < n) ∧ a ≠ b ∧ pr a b ∉ ps then some (pr a b) else none
              | _, _ => none) = _
            rw [hna, hnb]
          have mx : decide (n ≤ imax i j) = !(decide (i < n ∧ j < n)) := by
            unfold imax
            by_cases c : j > i
            · rw [if_pos c, ← decide_not]
              exact decide_eq_decide.mpr (by omega)
            · rw [if_neg c, ← decide_not]
              exact decide_eq_decide.mpr (by omega)
          refine d_ifr (k := !(decide (i < n ∧ j < n)) || eqB i j) (dt_w (dw_or (p := false) (q := !(decide (i < n ∧ j < n)) || eqB i j) (dtk (dt_ne (α := Int) (x := ((([a, b] : List Str).length : Nat) : Int)) (y := 2) hr (te_len (xs := ([a, b] : List Str)) T.len (ts_d (dv 5 rfl))) de_int) (len_two a b)) (fun _ => dw_or (p := false) (q := !(decide (i < n ∧ j < n)) || eqB i j) (dtk (dt_in (α := Option Int) (x := none) (xs := [some i, some j]) hr de_non (ts_d (dv 6 rfl))) (memB_false.mpr hin)) (fun _ => dw_or (p := !(decide (i < n ∧ j < n))) (q := eqB i j) (dtk (dt_ge (i := imax i j) (by rw [← max_two]; exact te_maxL hr rfl T.max (ts_d (ints_2 (dv 6 rfl))) (by intro z; cases z)) (dv 2 rfl)) mx) (fun _ => dw_or1 (dt_eq (α := Int) (x := i) (y := j) hr (some_k (o2_0 (dv 6 rfl) de_int)) (some_k (o2_1 (dv 6 rfl) de_int)))))))) (fun h => ?bad) (fun h => ?go)
          case bad =>
            refine d_ret (s := En (Tr.at place)) (tr_at (dv 3 rfl)) (back ?_)
            rw [eput, if_neg]
            rintro ⟨q1, q2, q3, q4⟩
            rw [eqB_false.mpr q3, decide_eq_true (show i < n ∧ j < n from ⟨q1.2, q2.2⟩)] at h
            cases h
          case go =>
            have hij : i < n ∧ j < n := by
              cases c : decide (i < n ∧ j < n) with
              | true => exact of_decide_eq_true c
              | false =>
                rw [c] at h
                cases h
            have ne : i ≠ j := by
              rw [Bool.or_eq_false_iff, eqB_false] at h
              exact h.2
            refine d_ifr (dt_in (α := Int × Int) (x := pr i j) (xs := ps) hr (pair_2 (de_tupN T.tuple (dn_sortO (α := Int) hr T.sorted (ts_d (ints_2 (dv 6 rfl)))))) (ds_own (i := 1) (fun _ _ h => h.2.2) rfl)) (fun h2 => ?there) (fun h2 => ?new)
            case there =>
              refine d_ret (s := En (Tr.at place)) (tr_at (dv 3 rfl)) (back ?_)
              rw [eput, if_neg]
              rintro ⟨_, _, _, q4⟩
              exact q4 (memB_true.mp h2)
            case new =>
              refine d_appT (i := 1) (α := Int × Int) (y := pr i j) (ys := ps) rfl hp0 hp2 frm_R0 (pair_2 (de_tupN T.tuple (dn_sortO (α := Int) hr T.sorted (ts_d (ints_2 (dv 6 rfl)))))) hlen ?_
              refine d_nil fun σ H h3 => hsome (pr i j) ?_ σ H (At.weak (.same (.same (.same (.drop (.drop (.drop (.drop (.same .nil)))))))) h3)
              rw [eput, if_pos ⟨⟨i0, hij.1⟩, ⟨j0, hij.2⟩, ne, memB_false.mp h2⟩]
end
abbrev Q_m_read (P : Program) (w : World) (K : PySem.W.Frag) (mg : Str → Option Value) (base : Heap) : Prop := FnG P w K mg base 10 "_law_read" ["_law_lines"] (R1 (fun ls : List Ln => okLs ls ∧ ls ≠ []) readT)
def manyAt (n : Int) (b : Nat) : Int := if b = 0 then 0 else n
theorem ok_m_read (T : Tx K mg) (H_n : Q_m_lnum P w K mg base) : Q_m_read P w K mg base := by
  refine fng_of T.d_m_read (fun _ _ _ _ _ _ us hl => match us, hl with | [_], _ => rfl) fun f fd F => fn_d F sc_m_read R1.len ?_
  rintro cdv A outer s G0 H0 E ss W r hr ⟨ls, rfl, ⟨hok, hne⟩, rfl⟩
  have nd := sc_m_read.nd
  cases ls with
  | nil => exact absurd rfl hne
  | cons l0 ds =>
    have hds : ds.length ≤ 999 := by have := hok.2; rw [List.length_cons] at this; omega
    have main : ∀ (n : Int) (qs : List (Int × Int)) (lim : Nat), qs.length ≤ ds.length → (begL l0 = none → readT (l0 :: ds) = .at 0) → (∀ n', begL l0 = some n' → n' = n ∧ 1 ≤ lim) → (∀ (j : Nat) d, j + 1 ≤ lim → ds[j]? = some d → putL n (qs.take j) d = none → readT (l0 :: ds) = .at ((j : Int) + 1)) →
        (∀ (j : Nat) d q, j + 1 ≤ lim → ds[j]? = some d → putL n (qs.take j) d = some q → qs.take (j + 1) = qs.take j ++ [q] ∧ j + 2 ≤ lim) → (ds.length + 1 ≤ lim → readT (l0 :: ds) = .web n (srt (qs.take ds.length))) →
        DSs (Xrd P w K mg base f cdv A outer s H0 E) (defBody s_law_read) (At G0 H0 G0 R0 (startR nn_m_read [En (l0 :: ds)])) { nx := fun _ H' => ∃ G', Gw G0 H0 G' H' ∧ RepS G' .non (En (readT (l0 :: ds))), rt := rtD G0 H0 (En (readT (l0 :: ds))) } := by
      intro n qs lim hql h0n h0s hn hs hfin
      refine d_ownN (an_set (i := 1) nd (tn_nil (α := (Int × Int)) rfl)) fun a hH hG hna => ?_
      refine d_let (i := 2) (α := Int) (y := 0) nd de_int fun z hz => ?_
      subst hz
      refine d_fold (js := [3, 4]) (enumF 0 (l0 :: ds)) (fun z => En z) (fun (b : Nat) (x : Int × Ln) => b + 1) (fun (pre : List (Int × Ln)) (b : Nat) => b = pre.length ∧ b ≤ lim) (fun b => R0.and (Own a ((qs.take (b - 1)).map Datum.toD))) (fun b => [some (En (l0 :: ds)), some (.v (.ref a)), some (En (manyAt n b)), none, none, none, none, none]) (fun b x => [some (En (l0 :: ds)), some (.v (.ref a)), some (En (manyAt n b)), some (En x.1), some (En x.2), none, none, none]) (0 : Nat) PassesOwn.never rfl (ti_enum T.enumerate (dv 0 rfl)) (fun G H σ c => ⟨c.s, c.w, c.e.weak (.same (.same (.same (.same (.same (.same (.same (.same .nil))))))))⟩) ⟨rfl, Nat.zero_le _⟩ (fun b x hx => (dg_tup rfl (dgs_cons (dg_name (i := 3) nd) (dgs_cons (dg_name (i := 4) nd) dgs_nil)))) (fun G2 bk pre x post b hxs hb hiv hG2 hW2 => ?turn) (fun b hb hiv => ?after)
      case turn =>
        have hGa : G2 a = none := by obtain ⟨H2, _, h⟩ := hW2; exact h.2.1
        obtain ⟨xa, xl⟩ := enum_at hxs
        obtain ⟨hiv, hle⟩ := hiv
        obtain ⟨x1, x2⟩ := x
        have e1 : x1 = (b : Int) := by rw [hiv]; exact xa
        have e2 : (l0 :: ds)[b]? = some x2 := by rw [hiv]; exact xl
        subst e1
        cases b with
        | zero =>
          have e3 : l0 = x2 := Option.some.inj e2
          subst e3
          exact read_first (ps := []) T H_n hr (hok.1 l0 List.mem_cons_self) (fun h v H' q => by rw [h0n h]; exact q) (fun n' h σ H h3 => by
            obtain ⟨rfl, hl1⟩ := h0s n' h
            exact ⟨⟨by rw [List.length_append, ← hiv]; rfl, hl1⟩, h3⟩)
        | succ b =>
          rw [List.getElem?_cons_succ] at e2
          refine read_next (n := n) (ps := qs.take b) T H_n hr (hok.1 x2 (List.mem_cons_of_mem _ (List.mem_of_getElem? e2))) (by omega) hH hGa (by rw [List.length_take]; omega) (fun h v H' q => by
            rw [hn b x2 hle e2 h]
            exact q) (fun q h σ H h3 => ?_)
          obtain ⟨h4, h5⟩ := hs b x2 q hle e2 h
          refine ⟨⟨by rw [List.length_append, ← hiv]; rfl, h5⟩, ?_⟩
          show At G0 H0 G2 (R0.and (Own a ((qs.take (b + 1)).map Datum.toD))) _ σ H
          rw [h4]
          exact h3
      case after =>
        obtain ⟨h1, h2⟩ := hiv
        rw [enum_len, List.length_cons] at h1
        subst h1
        rw [hfin h2]
        exact d_ret (s := En (Tr.web n (srt (qs.take ds.length)))) (tr_web (de_pair (x := n) (y := srt (qs.take ds.length)) (dv 2 rfl) (te_n (dn_sortT (α := (Int × Int)) (xs := qs.take ds.length) hr T.sorted (ds_own (i := 1) (fun _ _ h => h.2.2) rfl))))) fun v G' H' g r => ⟨G', g, r⟩
    refine d_res (W' := R0) (fun _ _ _ _ => trivial) ?_
    cases rdC (l0 :: ds) with
    | first h e =>
      rcases e with e | ⟨d, ds', e, hb⟩
      · cases e
      · cases e
        exact main 0 [] 0 (Nat.zero_le _) (fun _ => h) (fun n' q => by rw [hb] at q; cases q) (fun j d q => by exfalso; omega) (fun j d z q => by exfalso; omega) (fun q => by exfalso; omega)
    | bad d ds' n qs lb e hb h st hlb hput =>
      cases e
      have hq : qs.length < ds.length := (List.getElem?_eq_some_iff.mp hlb).1
      refine main n qs (qs.length + 1) (by omega) (fun z => by rw [hb] at z; cases z) (fun n' z => by rw [hb] at z; cases z; exact ⟨rfl, by omega⟩) (fun j d hj hd hn => ?_) (fun j d q hj hd hs => ?_) (fun z => by omega)
      · by_cases c : j < qs.length
        · obtain ⟨d2, q2, z1, z2, _⟩ := take_next st c
          rw [hd] at z1
          cases z1
          rw [hn] at z2
          cases z2
        · have ej : j = qs.length := by omega
          rw [h, ej, Int.add_comm]
      · by_cases c : j < qs.length
        · obtain ⟨d2, q2, z1, z2, z3⟩ := take_next st c
          rw [hd] at z1
          cases z1
          rw [hs] at z2
          cases z2
          exact ⟨z3, by omega⟩
        · exfalso
          have ej : j = qs.length := by omega
          subst ej
          rw [hd] at hlb
          cases hlb
          rw [List.take_length, hput] at hs
          cases hs
    | good d ds' n qs e hb h st hl =>
      cases e
      refine main n qs (ds.length + 1) (by omega) (fun z => by rw [hb] at z; cases z) (fun n' z => by rw [hb] at z; cases z; exact ⟨rfl, by omega⟩) (fun j d hj hd hn => ?_) (fun j d q hj hd hs => ?_) (fun _ => by rw [h, ← hl, List.take_length])
      · have hj2 : j < ds.length := (List.getElem?_eq_some_iff.mp hd).1
        obtain ⟨d2, q2, z1, z2, _⟩ := take_next st (b := j) (by omega)
        rw [hd] at z1
        cases z1
        rw [hn] at z2
        cases z2
      · have hj2 : j < ds.length := (List.getElem?_eq_some_iff.mp hd).1
        obtain ⟨d2, q2, z1, z2, z3⟩ := take_next st (b := j) (by omega)
        rw [hd] at z1
        cases z1
        rw [hs] at z2
        cases z2
        exact ⟨z3, by omega⟩


/-! by hand: _law_bent -/
abbrev nn_m_bent : List Str := ["_law_lines", "_law_number_here", "_law_at", "_law_line", "_law_spot", "_law_sign", "_law_way", "_law_odd"]
theorem sc_m_bent : FnScope nn_m_bent ["_law_lines", "_law_number_here"] (defScope s_law_bent) := ⟨rfl, rfl, rfl, by decide +kernel, rfl, by decide +kernel, by decide +kernel⟩
abbrev preB (xs : List Str) (num : Int) : Prop := xs ≠ [] ∧ xs.length ≤ 400 ∧ shortS 1000 xs ∧ 0 ≤ num
abbrev Q_m_bent (P : Program) (w : World) (K : PySem.W.Frag) (mg : Str → Option Value) (base : Heap) : Prop := FnG P w K mg base 1 "_law_bent" ["_law_lines", "_law_number_here"] (R2 preB bentL)
theorem ln_d (xs : List Str) : (Datum.toD (xs.map Ln.s) : PyData) = Datum.toD xs := by
  show PyData.list ((xs.map Ln.s).map Datum.toD) = PyData.list (xs.map Datum.toD)
  rw [List.map_map]
  rfl
theorem ln_s {X : L2.Cx} {W : Res} {ρ : Ro} {ex : Expr} {xs : List Str} (h : DE X W ex ρ (En xs)) : DE X W ex ρ (En (xs.map Ln.s)) := by
  show DE X W ex ρ (.d (Datum.toD (xs.map Ln.s)))
  rw [ln_d]
  exact h
theorem s_ln {X : L2.Cx} {W : Res} {ρ : Ro} {ex : Expr} {x : Str} (h : DE X W ex ρ (En x)) : DE X W ex ρ (En (Ln.s x)) := h
theorem n_ln {X : L2.Cx} {W : Res} {ρ : Ro} {ex : Expr} (h : DE X W ex ρ (.d .none)) : DE X W ex ρ (En Ln.n) := h
theorem i_ln {X : L2.Cx} {W : Res} {ρ : Ro} {ex : Expr} {x : Int} (h : DE X W ex ρ (En x)) : DE X W ex ρ (En (Ln.i x)) := h
theorem l_ln {X : L2.Cx} {W : Res} {ρ : Ro} {ex : Expr} {x : List Str} (h : DE X W ex ρ (En x)) : DE X W ex ρ (En (Ln.l x)) := h
theorem ok_m_bent (T : Tx K mg) : Q_m_bent P w K mg base := by
  refine fng_of T.d_m_bent (fun _ _ _ _ _ _ us hl => match us, hl with | [_, _], _ => rfl) fun f fd F => fn_d F sc_m_bent R2.len ?_
  rintro cdv A outer s G0 H0 E ss W r hr ⟨xs, num, rfl, ⟨hne, hlen, hsh, hnum⟩, rfl⟩
  have nd := sc_m_bent.nd
  have hin := bAt_in (num := num) hne
  have hw := bWay_in num
  have lp := List.length_pos_iff.mpr hne
  have hl : (bLine xs num).length ≤ 1000 := hsh _ (ixB_mem hin)
  have s1 := sign_one (num := num)
  have q1 := cutS_length (bLine xs num) none (some (bSpot xs num))
  have q2 := cutS_length (bLine xs num) (some (bSpot xs num)) none
  have q3 := cutS_length (bLine xs num) (some (bSpot xs num + 1)) none
  have cl : ∀ lo hi, (cutL xs lo hi).length ≤ 400 := fun lo hi => Nat.le_trans (cut_len _ _ _) hlen
  refine d_res (W' := R0) (fun _ _ _ _ => trivial) ?_
  refine d_let (i := 2) (α := Int) (y := bAt xs num) nd (de_mod (dv 1 rfl) (te_len (xs := xs) T.len (ts_d (dv 0 rfl))) (by omega)) fun z hz => ?_
  subst hz
  refine d_let (i := 3) (α := Str) (y := bLine xs num) nd (de_ix (xs := xs) (ts_d (dv 0 rfl)) (dv 2 rfl) (by omega)) fun z hz => ?_
  subst hz
  refine d_let (i := 4) (α := Int) (y := bSpot xs num) nd (de_mod (de_fdiv (dv 1 rfl) de_int ⟨by decide, by decide⟩) (de_add (te_lenS T.len (dv 3 rfl) (by omega)) de_int) (by omega)) fun z hz => ?_
  subst hz
  refine d_let (i := 5) (α := Str) (y := bSign num) nd (de_ixS (x := signs15) de_str (de_mod (de_fdiv (dv 1 rfl) de_int ⟨by decide, by decide⟩) de_int (by decide)) (by
    have l : (sgnS signs15).length = 15 := by decide +kernel
    rw [l]
    omega) (by decide +kernel)) fun z hz => ?_
  subst hz
  refine d_let (i := 6) (α := Int) (y := bWay num) nd (de_mod (de_fdiv (dv 1 rfl) de_int ⟨by decide, by decide⟩) de_int (by decide)) fun z hz => ?_
  subst hz
  refine d_letN (an_set (i := 7) (ds := odds.map Datum.toD) nd (tn_k (xs := odds) (.cons (s_ln de_str) (.cons (s_ln de_str) (.cons (s_ln de_str) (.cons (s_ln de_str) (.cons (s_ln de_str) (.cons (s_ln de_str) (.cons (s_ln de_str) (.cons (s_ln de_str) (.cons (s_ln de_str) (.cons (s_ln de_str) (.cons (n_ln de_non) (.cons (i_ln de_int) (.cons (l_ln (te_n (tn_1 de_str))) (.cons (s_ln de_str) .nil (by rfl)) (by rfl)) (by rfl)) (by rfl)) (by rfl)) (by rfl)) (by rfl)) (by rfl)) (by rfl)) (by rfl)) (by rfl)) (by rfl)) (by rfl)) (by rfl)))) fun z hz => ?_
  subst hz
  refine d_ifr (dt_lt (dv 6 rfl) de_int) (fun h => ?r1) (fun h => ?n1)
  case r1 =>
    have e : bentL xs num = (cutL xs none (some (bAt xs num)) ++ [ixD (bNew xs num) (bWay num)] ++ cutL xs (some (bAt xs num + 1)) none).map Ln.s := if_pos (of_decide_eq_true h)
    rw [e]
    have h3 : bWay num < 3 := of_decide_eq_true h
    have c1 := cl none (some (bAt xs num))
    have c2 := cl (some (bAt xs num + 1)) none
    refine d_ret (ln_s (te_n (tn_cat (ts_n (tn_cat (ts_n (tn_sl (xs := xs) (ts_d (dv 0 rfl)) do_no (do_so (dv 2 rfl)))) (ts_n (tn_1 (de_ix (xs := bNew xs num) (ts_n (tn_k (xs := bNew xs num) (.cons (de_addS (de_addS (de_slS (dv 3 rfl) do_no (do_so (dv 4 rfl)) (by omega)) (dv 5 rfl) (by omega)) (de_slS (dv 3 rfl) (do_so (dv 4 rfl)) do_no (by omega)) (by rw [app_len]; omega)) (.cons (de_addS (de_slS (dv 3 rfl) do_no (do_so (dv 4 rfl)) (by omega)) (de_slS (dv 3 rfl) (do_so (de_add (dv 4 rfl) de_int)) do_no (by omega)) (by omega)) (.cons (de_addS (de_addS (de_slS (dv 3 rfl) do_no (do_so (dv 4 rfl)) (by omega)) (dv 5 rfl) (by omega)) (de_slS (dv 3 rfl) (do_so (de_add (dv 4 rfl) de_int)) do_no (by omega)) (by rw [app_len]; omega)) .nil (by rfl)) (by rfl)) (by rfl)) (by show 3 ≤ 1000; decide))) (dv 6 rfl) (by show -(3 : Int) ≤ _ ∧ _ < (3 : Int); omega)))) (by rw [List.length_singleton]; omega))) (ts_n (tn_sl (xs := xs) (ts_d (dv 0 rfl)) (do_so (de_add (dv 2 rfl) de_int)) do_no)) (by rw [List.length_append, List.length_singleton]; omega)))) fun v G' H' g r => ⟨G', g, r⟩
  have h1 : ¬ bWay num < 3 := of_decide_eq_false h
  refine d_ifr (dt_eq (α := Int) (x := bWay num) (y := 3) hr (dv 6 rfl) de_int) (fun h => ?r2) (fun h => ?n2)
  case r2 =>
    have e : bentL xs num = (cutL xs none (some (bAt xs num)) ++ cutL xs (some (bAt xs num)) (some (bAt xs num + 1)) ++ cutL xs (some (bAt xs num)) none).map Ln.s := (if_neg h1).trans (if_pos (eqB_true.mp h))
    rw [e]
    have c1 := cl none (some (bAt xs num))
    have c2 := cl (some (bAt xs num)) (some (bAt xs num + 1))
    have c3 := cl (some (bAt xs num)) none
    refine d_ret (ln_s (te_n (tn_cat (ts_n (tn_cat (ts_n (tn_sl (xs := xs) (ts_d (dv 0 rfl)) do_no (do_so (dv 2 rfl)))) (ts_n (tn_sl (xs := xs) (ts_d (dv 0 rfl)) (do_so (dv 2 rfl)) (do_so (de_add (dv 2 rfl) de_int)))) (by omega))) (ts_n (tn_sl (xs := xs) (ts_d (dv 0 rfl)) (do_so (dv 2 rfl)) do_no)) (by rw [List.length_append]; omega)))) fun v G' H' g r => ⟨G', g, r⟩
  have h2 : ¬ bWay num = 3 := eqB_false.mp h
  refine d_ifr (k := decide (bWay num = 4 ∧ (xs.length : Int) > 1)) (dtk (dt_w (dw_and (dt_eq (α := Int) (x := bWay num) (y := 4) hr (dv 6 rfl) de_int) (fun _ => dw_and1 (dt_gt (te_len (xs := xs) T.len (ts_d (dv 0 rfl))) de_int)))) (by
    by_cases c : bWay num = 4
    · rw [eqB_true.mpr c, Bool.true_and]
      exact decide_eq_decide.mpr ⟨fun z => ⟨c, z⟩, fun z => z.2⟩
    · rw [eqB_false.mpr c, Bool.false_and]
      exact (decide_eq_false fun z => c z.1).symm)) (fun h => ?r3) (fun h => ?n3)
  case r3 =>
    have e : bentL xs num = (cutL xs none (some (bAt xs num)) ++ cutL xs (some (bAt xs num + 1)) none).map Ln.s := (if_neg h1).trans ((if_neg h2).trans (if_pos (of_decide_eq_true h)))
    rw [e]
    have c1 := cl none (some (bAt xs num))
    have c2 := cl (some (bAt xs num + 1)) none
    refine d_ret (ln_s (te_n (tn_cat (ts_n (tn_sl (xs := xs) (ts_d (dv 0 rfl)) do_no (do_so (dv 2 rfl)))) (ts_n (tn_sl (xs := xs) (ts_d (dv 0 rfl)) (do_so (de_add (dv 2 rfl) de_int)) do_no)) (by omega)))) fun v G' H' g r => ⟨G', g, r⟩
  have h3 : ¬ (bWay num = 4 ∧ (xs.length : Int) > 1) := of_decide_eq_false h
  refine d_ifr (dt_eq (α := Int) (x := bWay num) (y := 5) hr (dv 6 rfl) de_int) (fun h => ?r4) (fun h => ?n4)
  case r4 =>
    have e : bentL xs num = (cutL xs none (some (bAt xs num)) ++ (cutL xs (some (bAt xs num)) (some (bAt xs num + 2))).reverse ++ cutL xs (some (bAt xs num + 2)) none).map Ln.s := (if_neg h1).trans ((if_neg h2).trans ((if_neg h3).trans (if_pos (eqB_true.mp h))))
    rw [e]
    have c1 := cl none (some (bAt xs num))
    have c2 := cl (some (bAt xs num)) (some (bAt xs num + 2))
    have c3 := cl (some (bAt xs num + 2)) none
    refine d_ret (ln_s (te_n (tn_cat (ts_n (tn_cat (ts_n (tn_sl (xs := xs) (ts_d (dv 0 rfl)) do_no (do_so (dv 2 rfl)))) (ts_n (tn_rev (ts_n (tn_sl (xs := xs) (ts_d (dv 0 rfl)) (do_so (dv 2 rfl)) (do_so (de_add (dv 2 rfl) de_int)))))) (by rw [List.length_reverse]; omega))) (ts_n (tn_sl (xs := xs) (ts_d (dv 0 rfl)) (do_so (de_add (dv 2 rfl) de_int)) do_no)) (by rw [List.length_append, List.length_reverse]; omega)))) fun v G' H' g r => ⟨G', g, r⟩
  have h4 : ¬ bWay num = 5 := eqB_false.mp h
  have e : bentL xs num = (cutL xs none (some (bAt xs num + bWay num % 2))).map Ln.s ++ [ixD odds (num / 64 % 14)] ++ (cutL xs (some (bAt xs num + 1)) none).map Ln.s := (if_neg h1).trans ((if_neg h2).trans ((if_neg h3).trans (if_neg h4)))
  rw [e]
  have c1 := cl none (some (bAt xs num + bWay num % 2))
  have c2 := cl (some (bAt xs num + 1)) none
  refine d_ret (te_n (tn_cat (ts_n (tn_cat (ts_d (ln_s (te_n (tn_sl (xs := xs) (ts_d (dv 0 rfl)) do_no (do_so (de_add (dv 2 rfl) (de_mod (dv 6 rfl) de_int (by decide)))))))) (ts_n (tn_1 (de_ix (xs := odds) (ts_d (dv 7 rfl)) (de_mod (de_fdiv (dv 1 rfl) de_int ⟨by decide, by decide⟩) de_int (by decide)) (by show -(14 : Int) ≤ _ ∧ _ < (14 : Int); omega)))) (by rw [List.length_map, List.length_singleton]; omega))) (ts_d (ln_s (te_n (tn_sl (xs := xs) (ts_d (dv 0 rfl)) (do_so (de_add (dv 2 rfl) de_int)) do_no)))) (by rw [List.length_append, List.length_map, List.length_map, List.length_singleton]; omega))) fun v G' H' g r => ⟨G', g, r⟩

/-! by hand: the law -/
def m_law (sc : List Int) : Bool := true
abbrev pre_m_law : List Int → Prop := fun sc => sc.length ≤ 63
abbrev nn_m_law : List Str := ["_law_script", "_law_many", "_law_pairs_here", "_law_good", "_law_k", "_law_lines", "_law_handed", "_law_texts", "_law_number_here", "_law_wrong", "_law_one", "_law_other", "_law_line"]
theorem sc_m_law : FnScope nn_m_law ["_law_script"] (defScope s_law) := ⟨rfl, rfl, rfl, by decide +kernel, rfl, by decide +kernel, by decide +kernel⟩
theorem de_tupS {X : L2.Cx} {W : Res} {ρ : Ro} {pos fp : Pos} {a : Expr} {ds : List PyData} (hm : X.mg "tuple" = none) (ha : DS X W a ρ ds) (hg : Gl X "tuple" := by rfl) (sa : SA1 X a pos := by exact ⟨rfl, rfl⟩) : DE X W (.Call (.Name "tuple" fp) [a] [] pos) ρ (.d (.tuple ds)) :=
  pe_imp (pe_callTy call_tuple_of hg hm (by decide +kernel) (pa_cons ha pa_nil sa.h) (he := sa.h) (hpl := sa.b)) fun σ H Q ⟨G, c, q⟩ => ⟨G, c, fun p ys G1 H1 g1 h1 r1 => ⟨p, ys, rfl, .inl ⟨.inl h1, fun l hl => by
    have g2 := Gw.new (o := .tup ys) g1.i hl
    exact q _ _ _ (g1.trans g2) (.tup upd_same (rpAll_mono g2.g _ _ r1))⟩⟩⟩
theorem s_as {X : L2.Cx} {W : Res} {ρ : Ro} {ex : Expr} {y : Ln} (hy : isS y = true) (h : DE X W ex ρ (En y)) : DE X W ex ρ (En (asS y)) := by
  cases y with
  | s x => exact h
  | n => cases hy
  | i k => cases hy
  | l xs => cases hy
def wrongs (gs : List Str) : List PyData := [.none, .tuple (gs.map Datum.toD), .str (Str.ofString "points 3"), .int 5, .dict [], .list [], .bool true]
theorem wrong_bad {gs : List Str} {d : PyData} (h : d ∈ wrongs gs) : BadAt d 0 := by
  unfold wrongs at h
  rcases List.mem_cons.mp h with rfl | h
  · exact .no _ fun xs z => nomatch z
  · rcases List.mem_cons.mp h with rfl | h
    · exact .no _ fun xs z => nomatch z
    · rcases List.mem_cons.mp h with rfl | h
      · exact .no _ fun xs z => nomatch z
      · rcases List.mem_cons.mp h with rfl | h
        · exact .no _ fun xs z => nomatch z
        · rcases List.mem_cons.mp h with rfl | h
          · exact .no _ fun xs z => nomatch z
          · rcases List.mem_cons.mp h with rfl | h
            · exact .ls [] 0 ⟨(fun d hd => by cases hd), Nat.zero_le _⟩ rfl
            · rw [List.mem_singleton.mp h]
              exact .no _ fun xs z => nomatch z
theorem fo_m_law (T : Tx K mg) (H_m_draw : Q_m_draw P w K mg base) (H_m_drawn : Q_m_drawn P w K mg base) (H_m_told : Q_m_told P w K mg base) (H_m_toldD : Q_m_toldD P w K mg base) (H_m_read : Q_m_read P w K mg base) (H_m_bent : Q_m_bent P w K mg base) (f : Addr) (fd : FuncData) (F : FnP K "law" "law" s_law f fd) : FnOk P w K mg base L2.CX0 20 f fd ["_law_script"] (SpD (R1 pre_m_law m_law)) := by
  refine fn_d F sc_m_law R1.len ?_
  rintro cdv A outer s G0 H0 E ss W r hr ⟨sc, rfl, hpre, rfl⟩
  have nd := sc_m_law.nd
  refine d_res (W' := R0) (fun _ _ _ _ => trivial) ?_
  refine d_let (i := 1) (α := Int) nd (de_add de_int (de_mod (call2 H_m_draw hr (dv 0 rfl) de_int (by dsimp only [pre_m_draw]; omega)) de_int (by decide))) fun many hmany => ?_
  have lmany : 1 ≤ many ∧ many ≤ 12 := by omega
  refine d_let (i := 2) (α := (List (Int × Int))) nd (call2 H_m_drawn hr (dv 0 rfl) (dv 1 rfl) lmany) fun pairs hpairs => ?_
  have lpairs := drawn_good (sc := sc) (many := many) lmany
  rw [← hpairs] at lpairs
  have e1 := strI_len (i := many) (by omega)
  have e2 : (Str.ofString "points ").length = 7 := by decide +kernel
  have e3 : (Str.ofString " ").length = 1 := by decide +kernel
  refine d_letN (an_set (i := 3) nd (tn_cat (ts_n (tn_1 (de_addS de_str (de_strI T.str (dv 1 rfl) (log_ok (by omega))) (by omega)))) (ts_n (tn_lc0 [("_law_one", 10), ("_law_other", 11)] pairs (fun y => En y) (fun y => lineT y) (fun y => [some (En sc), some (En many), some (En pairs), none, none, none, none, none, none, none, some (En y.1), some (En y.2), none]) rfl nd (dih_g (ti_list (dv 2 rfl))) (blkOk_by (N := nn_m_law) (sc := defScope s_law) (by decide +kernel)) (fun y hy _ _ _ _ _ => (dg_tup rfl (dgs_cons (dg_name (i := 10) nd) (dgs_cons (dg_name (i := 11) nd) dgs_nil)))) (fun y hy _ _ _ _ _ => by
    have q := lpairs.1.1 y hy
    have l1 := strI_len (i := y.1) (by omega)
    have l2 := strI_len (i := y.2) (by omega)
    exact de_addS (de_addS (de_strI T.str (dv 10 rfl) (log_ok (by omega))) de_str (by omega)) (de_strI T.str (dv 11 rfl) (log_ok (by omega))) (by rw [app_len]; omega)))) (by rw [List.length_singleton, List.length_map]; omega))) fun good hgood => ?_
  have hgd : good = goodS many pairs := hgood
  subst hgd
  have gl : (goodS many pairs).length ≤ 133 := by
    show (pairs.map lineT).length + 1 ≤ 133
    rw [List.length_map]
    omega
  have gsh := good_short lmany lpairs.1
  have gne : goodS many pairs ≠ [] := by intro z; cases z
  have gok : okLs ((goodS many pairs).map Ln.s) := ok_short (k := 9) (by decide) (map_short gsh) (by rw [List.length_map]; omega)
  have rg := read_good lmany lpairs.1
  refine d_ifr (dt_ne (α := Tr) (x := readT ((goodS many pairs).map Ln.s)) (y := Tr.web many (srt pairs)) hr (call1 H_m_told hr (ln_s (te_n (tn_list (xs := goodS many pairs) T.list (ts_d (dv 3 rfl))))) gok) (tr_web (de_pair (x := many) (y := srt pairs) (dv 1 rfl) (te_n (dn_sortT (α := (Int × Int)) (xs := pairs) hr T.sorted (ts_d (dv 2 rfl))))))) (fun h => by
    exfalso
    rw [eqB_true.mpr rg] at h
    cases h) (fun _ => ?_)
  refine d_fold (js := [4]) (rng 0 6) (fun z => En z) (fun (b : Unit) (x : Int) => ()) (fun (pre : List Int) (b : Unit) => True) (fun b => R0) (fun b => [some (En sc), some (En many), some (En pairs), some (En (goodS many pairs)), none, none, none, none, none, none, none, none, none]) (fun b x => [some (En sc), some (En many), some (En pairs), some (En (goodS many pairs)), some (En x), none, none, none, none, none, none, none, none]) () PassesOwn.never rfl (dig_rng1 T.range de_int (by decide)) (fun G H σ c => ⟨c.s, c.w, c.e.weak (.same (.same (.same (.same (.same (.same (.same (.same (.same (.same (.same (.same (.same .nil)))))))))))))⟩) trivial (fun b x hx => (dg_name (i := 4) nd)) (fun G2 bk pre x post b hxs hb hiv hG2 hW2 => ?turn) (fun b hb hiv => ?after)
  case turn =>
    have hx : 0 ≤ x ∧ x < 6 := mem_rng.mp (by rw [hxs]; exact List.mem_append_right _ List.mem_cons_self)
    have d1 := draw_nn sc (50 + x)
    have d2 := draw_nn sc (60 + x)
    have pb : preB (goodS many pairs) (m_draw sc (50 + x)) := ⟨gne, by omega, fun z hz => by have := gsh z hz; omega, d1⟩
    refine d_let (i := 5) (α := List Ln) (y := bentL (goodS many pairs) (m_draw sc (50 + x))) nd (call2 H_m_bent hr (dv 3 rfl) (call2 H_m_draw hr (dv 0 rfl) (de_add de_int (dv 4 rfl)) (by dsimp only [pre_m_draw]; omega)) pb) fun L hL => ?_
    have bl := bent_len (num := m_draw sc (50 + x)) gne
    have bs := bent_short (num := m_draw sc (50 + x)) (k := 9) gne (by decide) gsh
    rw [← hL] at bl bs
    have lok : okLs L := ok_short (k := 2 * 9 + 1) (by decide) bs (by omega)
    have lne : L ≠ [] := fun z => by rw [z] at bl; exact absurd bl.1 (by decide)
    refine d_letN (an_set (i := 6) (ds := L.map Datum.toD) nd (tn_list (xs := L) T.list (ts_d (dv 5 rfl)))) fun hd hhd => ?_
    subst hhd
    refine d_ifr (dt_w (dw_or (dt_ne (α := Tr) (x := readT hd) (y := readT hd) hr (call1 H_m_told hr (dv 6 rfl) lok) (call1 H_m_read hr (dv 5 rfl) ⟨lok, lne⟩)) (fun _ => dw_or1 (dt_ne (α := List Ln) (x := hd) (y := hd) hr (dv 6 rfl) (dv 5 rfl))))) (fun h => by
      exfalso
      rw [eqB_true.mpr rfl, eqB_true.mpr rfl] at h
      cases h) (fun _ => ?_)
    refine d_letN (i := 7) (xs := textsOf hd) ?an fun texts htexts => ?_
    case an => exact an_lc (i := 7) [("_law_line", 12)] hd (fun y => En y) isS asS (fun y => [some (En sc), some (En many), some (En pairs), some (En (goodS many pairs)), some (En x), some (En hd), some (En hd), none, none, none, none, none, some (En y)]) rfl nd (dih_g (ti_list (dv 5 rfl))) (blkOk_by (N := nn_m_law) (sc := defScope s_law) (by decide +kernel)) (fun y hy _ _ _ _ _ => (dg_name (i := 12) nd)) (fun y hy _ _ _ _ _ => dts_one (dt_val (de_isi (d := Datum.toD y) (T := "str") T.isinstance (dv 12 rfl) (pe_bltn (by rfl) T.str (by decide +kernel) rfl) (k := isS y) (by cases y <;> rfl)))) (fun y hy hb1 _ _ _ _ _ => s_as hb1 (dv 12 rfl))
    have tsh := texts_short bs
    have tl := texts_len hd
    rw [← htexts] at tsh tl
    refine d_if (M := fun σ H => ∃ L2 : List Ln, (okLs L2 ∧ L2 ≠ []) ∧ At G0 H0 G2 R0 [some (En sc), some (En many), some (En pairs), some (En (goodS many pairs)), some (En x), some (En L2), some (En hd), some (En texts), none, none, none, none, none] σ H) (dt_ne (α := List Str) (x := texts) (y := []) hr (dv 7 rfl) (te_n (tn_nil rfl))) (fun h => ?ch) (fun _ => d_nil fun σ H p => ⟨hd, ⟨lok, lne⟩, p⟩) (d_ex fun L2 => d_and fun h2 => ?_)
    case ch =>
      have tne : texts ≠ [] := fun z => by
        rw [eqB_true.mpr z] at h
        cases h
      have pb2 : preB texts (m_draw sc (60 + x)) := ⟨tne, by omega, fun z hz => by have := tsh z hz; omega, d2⟩
      refine d_let (i := 5) (α := List Ln) (y := bentL texts (m_draw sc (60 + x))) nd (call2 H_m_bent hr (dv 7 rfl) (call2 H_m_draw hr (dv 0 rfl) (de_add de_int (dv 4 rfl)) (by dsimp only [pre_m_draw]; omega)) pb2) fun L2 hL2 => ?_
      have bl2 := bent_len (num := m_draw sc (60 + x)) tne
      have bs2 := bent_short (num := m_draw sc (60 + x)) (k := 2 * 9 + 1) tne (by decide) tsh
      rw [← hL2] at bl2 bs2
      exact d_nil fun σ H p => ⟨L2, ⟨ok_short (k := 2 * (2 * 9 + 1) + 1) (by decide) bs2 (by omega), fun z => by rw [z] at bl2; exact absurd bl2.1 (by decide)⟩, p⟩
    refine d_ifr (dt_ne (α := Tr) (x := readT L2) (y := readT L2) hr (call1 H_m_told hr (te_n (tn_list (xs := L2) T.list (ts_d (dv 5 rfl)))) h2.1) (call1 H_m_read hr (dv 5 rfl) h2)) (fun h => by
      exfalso
      rw [eqB_true.mpr rfl] at h
      cases h) (fun _ => ?_)
    exact d_nil fun σ H p => ⟨trivial, At.weak (.same (.same (.same (.same (.drop (.drop (.drop (.drop (.same (.same (.same (.same (.same .nil))))))))))))) p⟩
  case after =>
    refine d_let (i := 8) (α := Int) nd (call2 H_m_draw hr (dv 0 rfl) de_int (by dsimp only [pre_m_draw]; omega)) fun num hnum => ?_
    have wix : 0 ≤ num % 7 ∧ num % 7 < 7 := ⟨Int.emod_nonneg _ (by decide), Int.emod_lt_of_pos _ (by decide)⟩
    refine d_set (i := 9) (s := .d (ixD (wrongs (goodS many pairs)) (num % 7))) nd (de_ixP (ds_d (de_n (dn_lst (ds := wrongs (goodS many pairs)) (da_cons de_non (da_cons (de_tupS T.tuple (ts_d (dv 3 rfl))) (da_cons de_str (da_cons de_int (da_cons de_dic0 (da_cons (de_n (dn_lst da_nil .nil)) (da_cons de_bl da_nil rfl) rfl) rfl) rfl) rfl) rfl) rfl) (.cons (.cons (.cons (.cons (.cons (.cons (.cons .nil))))))) (by show 7 ≤ 1000; decide)))) (de_mod (dv 8 rfl) de_int (by decide)) (by show -(7 : Int) ≤ _ ∧ _ < (7 : Int); omega)) ?_
    have wb : BadAt (ixD (wrongs (goodS many pairs)) (num % 7)) 0 := wrong_bad (gs := goodS many pairs) (ixB_mem (xs := wrongs (goodS many pairs)) ⟨wix.1, wix.2⟩)
    have ev : (eqB (Tr.at 0) (Tr.at 0) && eqB (readT ((goodS many pairs).map Ln.s)) (Tr.web many (srt pairs))) = true := by
      rw [eqB_true.mpr rfl, eqB_true.mpr rg]
      rfl
    refine d_ret (s := En (eqB (Tr.at 0) (Tr.at 0) && eqB (readT ((goodS many pairs).map Ln.s)) (Tr.web many (srt pairs)))) (de_and (de_eq (α := Tr) (x := Tr.at 0) (y := Tr.at 0) hr (callA1 (f := fun _ : PyData => Tr.at 0) H_m_toldD hr (dv 9 rfl) wb) (tr_at de_int)) (fun _ => de_one (de_eq (α := Tr) (x := readT ((goodS many pairs).map Ln.s)) (y := Tr.web many (srt pairs)) hr (call1 H_m_told hr (ln_s (dv 3 rfl)) gok) (tr_web (de_pair (x := many) (y := srt pairs) (dv 1 rfl) (te_n (dn_sortT (α := (Int × Int)) (xs := pairs) hr T.sorted (ts_d (dv 2 rfl))))))))) fun v G' H' g r => ⟨G', g, ?_⟩
    rw [ev] at r
    exact r

end
end CH

namespace CH
open PySem PySem.Spec L2 DL
open PyProof.Rows hiding St
open PySem.W (Datum DatumOrd Tup T3)
def h_BadLine__init_ : He.DefD := ⟨("BadLine", some "__init__"), "__init__", "BadLine.__init__", defArgs s_BadLine__init_, defBody s_BadLine__init_, defScope s_BadLine__init_, [], []⟩
def h_is_among : He.DefD := ⟨("is_among", none), "is_among", "is_among", defArgs s_is_among, defBody s_is_among, defScope s_is_among, [], []⟩
def h_Web__init_ : He.DefD := ⟨("Web", some "__init__"), "__init__", "Web.__init__", defArgs s_Web__init_, defBody s_Web__init_, defScope s_Web__init_, [], []⟩
def h_Web_many : He.DefD := ⟨("Web", some "many"), "many", "Web.many", defArgs s_Web_many, defBody s_Web_many, defScope s_Web_many, [], []⟩
def h_Web_need_point : He.DefD := ⟨("Web", some "need_point"), "need_point", "Web.need_point", defArgs s_Web_need_point, defBody s_Web_need_point, defScope s_Web_need_point, [], []⟩
def h_Web_pair : He.DefD := ⟨("Web", some "pair"), "pair", "Web.pair", defArgs s_Web_pair, defBody s_Web_pair, defScope s_Web_pair, [], []⟩
def h_Web_tie : He.DefD := ⟨("Web", some "tie"), "tie", "Web.tie", defArgs s_Web_tie, defBody s_Web_tie, defScope s_Web_tie, [], []⟩
def h_Web_ties : He.DefD := ⟨("Web", some "ties"), "ties", "Web.ties", defArgs s_Web_ties, defBody s_Web_ties, defScope s_Web_ties, [], []⟩
def h_number_of : He.DefD := ⟨("number_of", none), "number_of", "number_of", defArgs s_number_of, defBody s_number_of, defScope s_number_of, [], []⟩
def h_words_of : He.DefD := ⟨("words_of", none), "words_of", "words_of", defArgs s_words_of, defBody s_words_of, defScope s_words_of, [], []⟩
def h_begun : He.DefD := ⟨("begun", none), "begun", "begun", defArgs s_begun, defBody s_begun, defScope s_begun, [], []⟩
def h_is_put : He.DefD := ⟨("is_put", none), "is_put", "is_put", defArgs s_is_put, defBody s_is_put, defScope s_is_put, [], []⟩
def h_web_of : He.DefD := ⟨("web_of", none), "web_of", "web_of", defArgs s_web_of, defBody s_web_of, defScope s_web_of, [], []⟩
def h_law_draw : He.DefD := ⟨("_law_draw", none), "_law_draw", "_law_draw", defArgs s_law_draw, defBody s_law_draw, defScope s_law_draw, [], []⟩
def h_law_word : He.DefD := ⟨("_law_word", none), "_law_word", "_law_word", defArgs s_law_word, defBody s_law_word, defScope s_law_word, [], []⟩
def h_law_pairs : He.DefD := ⟨("_law_pairs", none), "_law_pairs", "_law_pairs", defArgs s_law_pairs, defBody s_law_pairs, defScope s_law_pairs, [], []⟩
def h_law_drawn : He.DefD := ⟨("_law_drawn", none), "_law_drawn", "_law_drawn", defArgs s_law_drawn, defBody s_law_drawn, defScope s_law_drawn, [], []⟩
def h_law_number : He.DefD := ⟨("_law_number", none), "_law_number", "_law_number", defArgs s_law_number, defBody s_law_number, defScope s_law_number, [], []⟩
def h_law_read : He.DefD := ⟨("_law_read", none), "_law_read", "_law_read", defArgs s_law_read, defBody s_law_read, defScope s_law_read, [], []⟩
def h_law_told : He.DefD := ⟨("_law_told", none), "_law_told", "_law_told", defArgs s_law_told, defBody s_law_told, defScope s_law_told, [], []⟩
def h_law_bent : He.DefD := ⟨("_law_bent", none), "_law_bent", "_law_bent", defArgs s_law_bent, defBody s_law_bent, defScope s_law_bent, [], []⟩
def h_law : He.DefD := ⟨("law", none), "law", "law", defArgs s_law, defBody s_law, defScope s_law, [], []⟩
def fn : List He.DefD := [h_BadLine__init_, h_is_among, h_Web__init_, h_Web_many, h_Web_need_point, h_Web_pair, h_Web_tie, h_Web_ties, h_number_of, h_words_of, h_begun, h_is_put, h_web_of, h_law_draw, h_law_word, h_law_pairs, h_law_drawn, h_law_number, h_law_read, h_law_told, h_law_bent, h_law]
def fa : List He.Fa := [.free "len", .free "min", .free "max", .free "sorted", .free "list", .free "range", .free "isinstance", .free "int", .free "bool", .free "all", .free "enumerate", .free "str", .free "tuple", .free "set", .cls "Web", .noat "Web" "size", .noat "Web" "pairs", .mkr "Web", .glo "Web", .int "MOST_POINTS" 12, .int "MOST_FIGURES" 2, .glo "HuntError", .glo "BadWeb", .glo "NoPoint", .glo "BadTie", .glo "BadCount", .glo "TooMany", .glo "BadStanding", .glo "BadLine", .free "ValueError", .exc "NoPoint", .exm "NoPoint" "HuntError" true, .exc "BadTie", .exm "BadTie" "HuntError" true, .exc "BadWeb", .exm "BadWeb" "HuntError" true, .exm "BadLine" "HuntError" true, .glo "_law_draw", .glo "_law_pairs", .glo "_law_drawn", .glo "is_among", .meth "Web" "many", .meth "Web" "need_point", .meth "Web" "pair", .meth "Web" "tie", .meth "Web" "ties", .glo "number_of", .glo "words_of", .glo "_law_word", .meth "BadLine" "__init__", .glo "begun", .glo "is_put", .glo "web_of", .glo "_law_told", .glo "_law_number", .glo "_law_read", .glo "_law_bent", .glo "law"]
def fx : List DL.Fx := [.tkit "NoneType" "HuntError" false, .tkit "NoneType" "BadWeb" false, .tkit "NoneType" "NoPoint" false, .tkit "NoneType" "BadTie" false, .tkit "NoneType" "BadCount" false, .tkit "NoneType" "TooMany" false, .tkit "NoneType" "BadStanding" false, .tkit "NoneType" "BadLine" false, .exc "NoPoint", .kit "NoPoint" "HuntError" true, .kit "NoPoint" "BadWeb" false, .kit "NoPoint" "NoPoint" true, .kit "NoPoint" "BadTie" false, .kit "NoPoint" "BadCount" false, .kit "NoPoint" "TooMany" false, .kit "NoPoint" "BadStanding" false, .kit "NoPoint" "BadLine" false, .kitT "NoPoint" "ValueError" true, .exc "BadTie", .kit "BadTie" "HuntError" true, .kit "BadTie" "BadWeb" false, .kit "BadTie" "NoPoint" false, .kit "BadTie" "BadTie" true, .kit "BadTie" "BadCount" false, .kit "BadTie" "TooMany" false, .kit "BadTie" "BadStanding" false, .kit "BadTie" "BadLine" false, .kitT "BadTie" "ValueError" true, .exc "BadWeb", .kit "BadWeb" "HuntError" true, .kit "BadWeb" "BadWeb" true, .kit "BadWeb" "NoPoint" false, .kit "BadWeb" "BadTie" false, .kit "BadWeb" "BadCount" false, .kit "BadWeb" "TooMany" false, .kit "BadWeb" "BadStanding" false, .kit "BadWeb" "BadLine" false, .kitT "BadWeb" "ValueError" true, .exc "BadLine", .oex "BadLine", .nofld "BadLine" "place", .hin "HuntError", .kit "BadLine" "HuntError" true, .kit "BadLine" "BadWeb" false, .kit "BadLine" "NoPoint" false, .kit "BadLine" "BadTie" false, .kit "BadLine" "BadCount" false, .kit "BadLine" "TooMany" false, .kit "BadLine" "BadStanding" false, .kit "BadLine" "BadLine" true, .kitT "BadLine" "ValueError" true, .objc "Web"]
abbrev R : PySem.W.OpenRow := PySem.W.OpenLaw.row PySem.Challenge.rw_cornerhunt_k12_lines_refused
abbrev hk : PySem.W.Hook := DL.hookM 5 fa fn fx
def ob (s : PySem.W.SharedT) : DL.AlM := DL.obsM 5 fa fn fx (HandSHeadRun.getT s)
theorem ob_eq (s : PySem.W.SharedT) : ob s = hk.obs s.abs := DL.obsM_eq (HandSHeadRun.getT_eq s)
def loose : List Str := ["_wall", "HuntError", "BadWeb", "NoPoint", "BadTie", "BadCount", "TooMany", "BadStanding", "BadLine", "MOST_POINTS", "is_among", "Web", "MOST_FIGURES", "number_of", "words_of", "begun", "is_put", "web_of", "_law_draw", "_law_word", "_law_pairs", "_law_drawn", "_law_number", "_law_read", "_law_told", "_law_bent"]
theorem run (w : World) : HandSHeadRun.RunEq R (PySem.W.view R.prog [30]) hk ob 4000 loose w := by
  intro os
  kernel_rfl
theorem tx_of {K : PySem.W.Frag} {h : Heap} {mg : Str → Option Value} (X : K.In h) (G : h.Ns mainGlobals mg) (c : DL.SaysM fa fn fx K) : Tx K mg where
  len := He.free_ok X G (c.fact 0 (f := .free "len") rfl)
  min := He.free_ok X G (c.fact 1 (f := .free "min") rfl)
  max := He.free_ok X G (c.fact 2 (f := .free "max") rfl)
  sorted := He.free_ok X G (c.fact 3 (f := .free "sorted") rfl)
  list := He.free_ok X G (c.fact 4 (f := .free "list") rfl)
  range := He.free_ok X G (c.fact 5 (f := .free "range") rfl)
  isinstance := He.free_ok X G (c.fact 6 (f := .free "isinstance") rfl)
  int := He.free_ok X G (c.fact 7 (f := .free "int") rfl)
  bool := He.free_ok X G (c.fact 8 (f := .free "bool") rfl)
  all := He.free_ok X G (c.fact 9 (f := .free "all") rfl)
  enumerate := He.free_ok X G (c.fact 10 (f := .free "enumerate") rfl)
  str := He.free_ok X G (c.fact 11 (f := .free "str") rfl)
  tuple := He.free_ok X G (c.fact 12 (f := .free "tuple") rfl)
  set := He.free_ok X G (c.fact 13 (f := .free "set") rfl)
  cl_Web := He.cls_ok (c.fact 14 (f := .cls "Web") rfl)
  na_Web_size := He.noat_ok (c.fact 15 (f := .noat "Web" "size") rfl)
  na_Web_pairs := He.noat_ok (c.fact 16 (f := .noat "Web" "pairs") rfl)
  d_Web__init_ := by
    obtain ⟨fd, F⟩ := c.def_ 2 (d := h_Web__init_) rfl
    exact ⟨_, fd, F, He.mkr_ok (c.fact 17 (f := .mkr "Web") rfl)⟩
  g_Web := He.glo_ok X G (c.fact 18 (f := .glo "Web") rfl)
  c_MOST_POINTS := He.int_ok X G (c.fact 19 (f := .int "MOST_POINTS" 12) rfl)
  c_MOST_FIGURES := He.int_ok X G (c.fact 20 (f := .int "MOST_FIGURES" 2) rfl)
  g_HuntError := He.glo_ok X G (c.fact 21 (f := .glo "HuntError") rfl)
  kit_None_HuntError := of_decide_eq_true (c.fx 0 (f := .tkit "NoneType" "HuntError" false) rfl)
  g_BadWeb := He.glo_ok X G (c.fact 22 (f := .glo "BadWeb") rfl)
  kit_None_BadWeb := of_decide_eq_true (c.fx 1 (f := .tkit "NoneType" "BadWeb" false) rfl)
  g_NoPoint := He.glo_ok X G (c.fact 23 (f := .glo "NoPoint") rfl)
  kit_None_NoPoint := of_decide_eq_true (c.fx 2 (f := .tkit "NoneType" "NoPoint" false) rfl)
  g_BadTie := He.glo_ok X G (c.fact 24 (f := .glo "BadTie") rfl)
  kit_None_BadTie := of_decide_eq_true (c.fx 3 (f := .tkit "NoneType" "BadTie" false) rfl)
  g_BadCount := He.glo_ok X G (c.fact 25 (f := .glo "BadCount") rfl)
  kit_None_BadCount := of_decide_eq_true (c.fx 4 (f := .tkit "NoneType" "BadCount" false) rfl)
  g_TooMany := He.glo_ok X G (c.fact 26 (f := .glo "TooMany") rfl)
  kit_None_TooMany := of_decide_eq_true (c.fx 5 (f := .tkit "NoneType" "TooMany" false) rfl)
  g_BadStanding := He.glo_ok X G (c.fact 27 (f := .glo "BadStanding") rfl)
  kit_None_BadStanding := of_decide_eq_true (c.fx 6 (f := .tkit "NoneType" "BadStanding" false) rfl)
  g_BadLine := He.glo_ok X G (c.fact 28 (f := .glo "BadLine") rfl)
  kit_None_BadLine := of_decide_eq_true (c.fx 7 (f := .tkit "NoneType" "BadLine" false) rfl)
  ValueError := He.free_ok X G (c.fact 29 (f := .free "ValueError") rfl)
  x_NoPoint := ⟨excC_of (c.fx 8 (f := .exc "NoPoint") rfl), (He.exc_ok (c.fact 30 (f := .exc "NoPoint") rfl)).1, (He.exc_ok (c.fact 30 (f := .exc "NoPoint") rfl)).2.1, (He.exc_ok (c.fact 30 (f := .exc "NoPoint") rfl)).2.2.1, (He.exc_ok (c.fact 30 (f := .exc "NoPoint") rfl)).2.2.2, He.glo_ok X G (c.fact 23 (f := .glo "NoPoint") rfl)⟩
  exm_NoPoint := He.exm_ok (c.fact 31 (f := .exm "NoPoint" "HuntError" true) rfl)
  kit_NoPoint_HuntError := of_decide_eq_true (c.fx 9 (f := .kit "NoPoint" "HuntError" true) rfl)
  kit_NoPoint_BadWeb := of_decide_eq_true (c.fx 10 (f := .kit "NoPoint" "BadWeb" false) rfl)
  kit_NoPoint_NoPoint := of_decide_eq_true (c.fx 11 (f := .kit "NoPoint" "NoPoint" true) rfl)
  kit_NoPoint_BadTie := of_decide_eq_true (c.fx 12 (f := .kit "NoPoint" "BadTie" false) rfl)
  kit_NoPoint_BadCount := of_decide_eq_true (c.fx 13 (f := .kit "NoPoint" "BadCount" false) rfl)
  kit_NoPoint_TooMany := of_decide_eq_true (c.fx 14 (f := .kit "NoPoint" "TooMany" false) rfl)
  kit_NoPoint_BadStanding := of_decide_eq_true (c.fx 15 (f := .kit "NoPoint" "BadStanding" false) rfl)
  kit_NoPoint_BadLine := of_decide_eq_true (c.fx 16 (f := .kit "NoPoint" "BadLine" false) rfl)
  kit_NoPoint_ValueError := of_decide_eq_true (c.fx 17 (f := .kitT "NoPoint" "ValueError" true) rfl)
  x_BadTie := ⟨excC_of (c.fx 18 (f := .exc "BadTie") rfl), (He.exc_ok (c.fact 32 (f := .exc "BadTie") rfl)).1, (He.exc_ok (c.fact 32 (f := .exc "BadTie") rfl)).2.1, (He.exc_ok (c.fact 32 (f := .exc "BadTie") rfl)).2.2.1, (He.exc_ok (c.fact 32 (f := .exc "BadTie") rfl)).2.2.2, He.glo_ok X G (c.fact 24 (f := .glo "BadTie") rfl)⟩
  exm_BadTie := He.exm_ok (c.fact 33 (f := .exm "BadTie" "HuntError" true) rfl)
  kit_BadTie_HuntError := of_decide_eq_true (c.fx 19 (f := .kit "BadTie" "HuntError" true) rfl)
  kit_BadTie_BadWeb := of_decide_eq_true (c.fx 20 (f := .kit "BadTie" "BadWeb" false) rfl)
  kit_BadTie_NoPoint := of_decide_eq_true (c.fx 21 (f := .kit "BadTie" "NoPoint" false) rfl)
  kit_BadTie_BadTie := of_decide_eq_true (c.fx 22 (f := .kit "BadTie" "BadTie" true) rfl)
  kit_BadTie_BadCount := of_decide_eq_true (c.fx 23 (f := .kit "BadTie" "BadCount" false) rfl)
  kit_BadTie_TooMany := of_decide_eq_true (c.fx 24 (f := .kit "BadTie" "TooMany" false) rfl)
  kit_BadTie_BadStanding := of_decide_eq_true (c.fx 25 (f := .kit "BadTie" "BadStanding" false) rfl)
  kit_BadTie_BadLine := of_decide_eq_true (c.fx 26 (f := .kit "BadTie" "BadLine" false) rfl)
  kit_BadTie_ValueError := of_decide_eq_true (c.fx 27 (f := .kitT "BadTie" "ValueError" true) rfl)
  x_BadWeb := ⟨excC_of (c.fx 28 (f := .exc "BadWeb") rfl), (He.exc_ok (c.fact 34 (f := .exc "BadWeb") rfl)).1, (He.exc_ok (c.fact 34 (f := .exc "BadWeb") rfl)).2.1, (He.exc_ok (c.fact 34 (f := .exc "BadWeb") rfl)).2.2.1, (He.exc_ok (c.fact 34 (f := .exc "BadWeb") rfl)).2.2.2, He.glo_ok X G (c.fact 22 (f := .glo "BadWeb") rfl)⟩
  exm_BadWeb := He.exm_ok (c.fact 35 (f := .exm "BadWeb" "HuntError" true) rfl)
  kit_BadWeb_HuntError := of_decide_eq_true (c.fx 29 (f := .kit "BadWeb" "HuntError" true) rfl)
  kit_BadWeb_BadWeb := of_decide_eq_true (c.fx 30 (f := .kit "BadWeb" "BadWeb" true) rfl)
  kit_BadWeb_NoPoint := of_decide_eq_true (c.fx 31 (f := .kit "BadWeb" "NoPoint" false) rfl)
  kit_BadWeb_BadTie := of_decide_eq_true (c.fx 32 (f := .kit "BadWeb" "BadTie" false) rfl)
  kit_BadWeb_BadCount := of_decide_eq_true (c.fx 33 (f := .kit "BadWeb" "BadCount" false) rfl)
  kit_BadWeb_TooMany := of_decide_eq_true (c.fx 34 (f := .kit "BadWeb" "TooMany" false) rfl)
  kit_BadWeb_BadStanding := of_decide_eq_true (c.fx 35 (f := .kit "BadWeb" "BadStanding" false) rfl)
  kit_BadWeb_BadLine := of_decide_eq_true (c.fx 36 (f := .kit "BadWeb" "BadLine" false) rfl)
  kit_BadWeb_ValueError := of_decide_eq_true (c.fx 37 (f := .kitT "BadWeb" "ValueError" true) rfl)
  xe_BadLine := excC_of (c.fx 38 (f := .exc "BadLine") rfl)
  xo_BadLine := oexC_of (c.fx 39 (f := .oex "BadLine") rfl)
  xn_BadLine := of_decide_eq_true (c.fx 40 (f := .nofld "BadLine" "place") rfl)
  xh_HuntError := hinC_of (c.fx 41 (f := .hin "HuntError") rfl)
  exm_BadLine := He.exm_ok (c.fact 36 (f := .exm "BadLine" "HuntError" true) rfl)
  kit_BadLine_HuntError := of_decide_eq_true (c.fx 42 (f := .kit "BadLine" "HuntError" true) rfl)
  kit_BadLine_BadWeb := of_decide_eq_true (c.fx 43 (f := .kit "BadLine" "BadWeb" false) rfl)
  kit_BadLine_NoPoint := of_decide_eq_true (c.fx 44 (f := .kit "BadLine" "NoPoint" false) rfl)
  kit_BadLine_BadTie := of_decide_eq_true (c.fx 45 (f := .kit "BadLine" "BadTie" false) rfl)
  kit_BadLine_BadCount := of_decide_eq_true (c.fx 46 (f := .kit "BadLine" "BadCount" false) rfl)
  kit_BadLine_TooMany := of_decide_eq_true (c.fx 47 (f := .kit "BadLine" "TooMany" false) rfl)
  kit_BadLine_BadStanding := of_decide_eq_true (c.fx 48 (f := .kit "BadLine" "BadStanding" false) rfl)
  kit_BadLine_BadLine := of_decide_eq_true (c.fx 49 (f := .kit "BadLine" "BadLine" true) rfl)
  kit_BadLine_ValueError := of_decide_eq_true (c.fx 50 (f := .kitT "BadLine" "ValueError" true) rfl)
  ob_Web := obC_of (c.fx 51 (f := .objc "Web") rfl)
  d_m_draw := by
    obtain ⟨fd, F⟩ := c.def_ 13 (d := h_law_draw) rfl
    exact ⟨_, fd, F, He.glo_ok X G (c.fact 37 (f := .glo "_law_draw") rfl)⟩
  d_m_pairs := by
    obtain ⟨fd, F⟩ := c.def_ 15 (d := h_law_pairs) rfl
    exact ⟨_, fd, F, He.glo_ok X G (c.fact 38 (f := .glo "_law_pairs") rfl)⟩
  d_m_drawn := by
    obtain ⟨fd, F⟩ := c.def_ 16 (d := h_law_drawn) rfl
    exact ⟨_, fd, F, He.glo_ok X G (c.fact 39 (f := .glo "_law_drawn") rfl)⟩
  d_m_is_among := by
    obtain ⟨fd, F⟩ := c.def_ 1 (d := h_is_among) rfl
    exact ⟨_, fd, F, He.glo_ok X G (c.fact 40 (f := .glo "is_among") rfl)⟩
  d_m_Web_many := by
    obtain ⟨fd, F⟩ := c.def_ 3 (d := h_Web_many) rfl
    exact ⟨_, fd, F, He.meth_ok (c.fact 41 (f := .meth "Web" "many") rfl)⟩
  d_m_Web_need_point := by
    obtain ⟨fd, F⟩ := c.def_ 4 (d := h_Web_need_point) rfl
    exact ⟨_, fd, F, He.meth_ok (c.fact 42 (f := .meth "Web" "need_point") rfl)⟩
  d_m_Web_pair := by
    obtain ⟨fd, F⟩ := c.def_ 5 (d := h_Web_pair) rfl
    exact ⟨_, fd, F, He.meth_ok (c.fact 43 (f := .meth "Web" "pair") rfl)⟩
  d_m_Web_tie := by
    obtain ⟨fd, F⟩ := c.def_ 6 (d := h_Web_tie) rfl
    exact ⟨_, fd, F, He.meth_ok (c.fact 44 (f := .meth "Web" "tie") rfl)⟩
  d_m_Web_ties := by
    obtain ⟨fd, F⟩ := c.def_ 7 (d := h_Web_ties) rfl
    exact ⟨_, fd, F, He.meth_ok (c.fact 45 (f := .meth "Web" "ties") rfl)⟩
  d_m_number_of := by
    obtain ⟨fd, F⟩ := c.def_ 8 (d := h_number_of) rfl
    exact ⟨_, fd, F, He.glo_ok X G (c.fact 46 (f := .glo "number_of") rfl)⟩
  d_m_words_of := by
    obtain ⟨fd, F⟩ := c.def_ 9 (d := h_words_of) rfl
    exact ⟨_, fd, F, He.glo_ok X G (c.fact 47 (f := .glo "words_of") rfl)⟩
  d_m_word := by
    obtain ⟨fd, F⟩ := c.def_ 14 (d := h_law_word) rfl
    exact ⟨_, fd, F, He.glo_ok X G (c.fact 48 (f := .glo "_law_word") rfl)⟩
  d_m_bl := by
    obtain ⟨fd, F⟩ := c.def_ 0 (d := h_BadLine__init_) rfl
    exact ⟨_, fd, F, He.meth_ok (c.fact 49 (f := .meth "BadLine" "__init__") rfl)⟩
  d_m_begun := by
    obtain ⟨fd, F⟩ := c.def_ 10 (d := h_begun) rfl
    exact ⟨_, fd, F, He.glo_ok X G (c.fact 50 (f := .glo "begun") rfl)⟩
  d_m_is_put := by
    obtain ⟨fd, F⟩ := c.def_ 11 (d := h_is_put) rfl
    exact ⟨_, fd, F, He.glo_ok X G (c.fact 51 (f := .glo "is_put") rfl)⟩
  d_m_web_of := by
    obtain ⟨fd, F⟩ := c.def_ 12 (d := h_web_of) rfl
    exact ⟨_, fd, F, He.glo_ok X G (c.fact 52 (f := .glo "web_of") rfl)⟩
  d_m_told := by
    obtain ⟨fd, F⟩ := c.def_ 19 (d := h_law_told) rfl
    exact ⟨_, fd, F, He.glo_ok X G (c.fact 53 (f := .glo "_law_told") rfl)⟩
  d_m_lnum := by
    obtain ⟨fd, F⟩ := c.def_ 17 (d := h_law_number) rfl
    exact ⟨_, fd, F, He.glo_ok X G (c.fact 54 (f := .glo "_law_number") rfl)⟩
  d_m_read := by
    obtain ⟨fd, F⟩ := c.def_ 18 (d := h_law_read) rfl
    exact ⟨_, fd, F, He.glo_ok X G (c.fact 55 (f := .glo "_law_read") rfl)⟩
  d_m_bent := by
    obtain ⟨fd, F⟩ := c.def_ 20 (d := h_law_bent) rfl
    exact ⟨_, fd, F, He.glo_ok X G (c.fact 56 (f := .glo "_law_bent") rfl)⟩
  d_m_law := by
    obtain ⟨fd, F⟩ := c.def_ 21 (d := h_law) rfl
    exact ⟨_, fd, F, He.glo_ok X G (c.fact 57 (f := .glo "law") rfl)⟩
theorem all_ok {P : Program} {w : World} {K : PySem.W.Frag} {mg : Str → Option Value} {base : Heap} (T : Tx K mg) (f : Addr) (fd : FuncData) (F : FnP K "law" "law" s_law f fd) : FnOk P w K mg base L2.CX0 20 f fd ["_law_script"] (SpD (R1 pre_m_law m_law)) := by
  have H_m_draw : Q_m_draw P w K mg base := ok_m_draw T
  have H_m_pairs : Q_m_pairs P w K mg base := ok_m_pairs T H_m_draw
  have H_m_drawn : Q_m_drawn P w K mg base := ok_m_drawn T H_m_pairs H_m_draw
  have H_m_is_among : Q_m_is_among P w K mg base := ok_m_is_among T
  have H_m_Web_many : Q_m_Web_many P w K mg base := ok_m_Web_many T
  have H_m_Web_need_point : Q_m_Web_need_point P w K mg base := ok_m_Web_need_point T H_m_is_among
  have H_m_Web_pair : Q_m_Web_pair P w K mg base := ok_m_Web_pair T H_m_Web_need_point
  have H_m_Web_init : Q_m_Web_init P w K mg base := ok_m_Web_init T H_m_is_among
  have H_m_Web_tie : Q_m_Web_tie P w K mg base := ok_m_Web_tie T H_m_Web_pair
  have H_m_Web_ties : Q_m_Web_ties P w K mg base := ok_m_Web_ties T
  have H_m_number_of : Q_m_number_of P w K mg base := ok_m_number_of T
  have H_m_words_of : Q_m_words_of P w K mg base := ok_m_words_of T
  have H_m_word_none : Q_m_word_none P w K mg base := ok_m_word_none T
  have H_m_word_NoPoint : Q_m_word_NoPoint P w K mg base := ok_m_word_NoPoint T
  have H_m_word_BadTie : Q_m_word_BadTie P w K mg base := ok_m_word_BadTie T
  have H_m_word_BadWeb : Q_m_word_BadWeb P w K mg base := ok_m_word_BadWeb T
  have H_m_bl : Q_m_bl P w K mg base := ok_m_bl T
  have H_m_amongD : Q_m_amongD P w K mg base := ok_m_amongD T
  have H_m_web_np : Q_m_web_np P w K mg base := ok_m_web_np T H_m_amongD
  have H_m_web_pairx : Q_m_web_pairx P w K mg base := ok_m_web_pairx T H_m_Web_need_point H_m_web_np
  have H_m_web_tiex : Q_m_web_tiex P w K mg base := ok_m_web_tiex T H_m_web_pairx
  have H_m_web_tiey : Q_m_web_tiey P w K mg base := ok_m_web_tiey T H_m_Web_pair
  have H_m_web_mkx : Q_m_web_mkx P w K mg base := ok_m_web_mkx T H_m_amongD
  have H_m_words : Q_m_words P w K mg base := ok_m_words T
  have H_m_begun : Q_m_begun P w K mg base := ok_m_begun T H_m_words H_m_number_of H_m_Web_init
  have H_m_begunN : Q_m_begunN P w K mg base := ok_m_begunN T H_m_words H_m_number_of H_m_web_mkx
  have H_m_is_put : Q_m_is_put P w K mg base := ok_m_is_put T H_m_words H_m_number_of H_m_Web_tie
  have H_m_is_putN : Q_m_is_putN P w K mg base := ok_m_is_putN T H_m_words H_m_number_of H_m_web_tiex H_m_web_tiey
  have H_m_web_of : Q_m_web_of P w K mg base := ok_m_web_of T H_m_begun H_m_is_put
  have H_m_web_ofX : Q_m_web_ofX P w K mg base := ok_m_web_ofX T H_m_begun H_m_begunN H_m_is_put H_m_is_putN H_m_bl
  have H_m_word_BadLine : Q_m_word_BadLine P w K mg base := ok_m_word_BadLine T
  have H_m_told : Q_m_told P w K mg base := ok_m_told T H_m_web_of H_m_web_ofX H_m_word_BadLine H_m_Web_many H_m_Web_ties
  have H_m_toldD : Q_m_toldD P w K mg base := ok_m_toldD T H_m_web_ofX H_m_word_BadLine
  have H_m_lnum : Q_m_lnum P w K mg base := ok_m_lnum T
  have H_m_read : Q_m_read P w K mg base := ok_m_read T H_m_lnum
  have H_m_bent : Q_m_bent P w K mg base := ok_m_bent T
  exact fo_m_law T H_m_draw H_m_drawn H_m_told H_m_toldD H_m_read H_m_bent f fd F
theorem law_true (sc : List Int) : m_law sc = true := rfl
end CH
open PySem PySem.W PySem.Calls PyProof.Rows
theorem PySem.Challenge.cw_cornerhunt_k12_lines_refused_holds : PySem.Challenge.rw_cornerhunt_k12_lines_refused.Holds := by
  w_on; o_law
  refine HandSHeadRun.head_any (r := OpenLaw.row PySem.Challenge.rw_cornerhunt_k12_lines_refused) (q := view (OpenLaw.row PySem.Challenge.rw_cornerhunt_k12_lines_refused).prog [30]) (H := CH.hk) (ob := CH.ob) (M := 4000) (loose := CH.loose) (d := HandSHeadRun.topDef (OpenLaw.row PySem.Challenge.rw_cornerhunt_k12_lines_refused).prog 30) (kwd := []) CH.ob_eq
    (by kernel_rfl) (fun s => by kernel_rfl) CH.run (by kernel_rfl) (by kernel_rfl) (by kernel_rfl) (by rfl) (by first | assumption | decide +kernel) (by decide +kernel) ⟨rfl, rfl, rfl, rfl, rfl, by decide +kernel⟩ ?hw ?hc
  case hw => w_witness2
  case hc =>
    refine L2.walk_ofE (l := PySem.Challenge.rw_cornerhunt_k12_lines_refused) (n := 63) (k := 20) (x := "_law_script") (CX := L2.CX0) rfl (by decide) (by kernel_rfl) ⟨rfl, by decide, by decide⟩ ?F (fun _ _ _ _ z => z)
    intro w mg fa h Y G hmg0
    obtain ⟨K, KX, c, nl⟩ := Y
    have hmg : mg ("law" : PySem.Str) = some (.ref fa) := by
      have e : (HandSHeadRun.topDef (OpenLaw.row PySem.Challenge.rw_cornerhunt_k12_lines_refused).prog 30).name = ("law" : PySem.Str) := by kernel_rfl
      rw [← e]
      exact hmg0
    obtain ⟨f, fd, F, hf⟩ := (CH.tx_of KX G c).d_m_law
    have ef := hmg.symm.trans hf
    cases ef
    have hb := L2.FunD.bindsA (ps := ["_law_script"]) F fun _ _ _ _ _ _ us hl => match us, hl with | [_], _ => rfl
    exact ⟨K, fd, DL.SpD (DL.R1 CH.pre_m_law CH.m_law), KX, fun s v => hb s [v] rfl, fun H a ns hl _ hS => DL.law_in nl hS hl (CH.law_true ns), fun base _ _ => CH.all_ok (CH.tx_of KX G c) fa fd F⟩
