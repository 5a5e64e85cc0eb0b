import PyProof.Rows.All
import Wide.All
import OpenK.AllK
import Wide.FinOn
import HandS.ForMost
import HandS.ForExc
import HandS.IsInst
import HandS.ExcIs
import HandS.Wide
import HandS.More
import HandS.Conv
import HandS.Deep
import HandS.TupLen
import HandS.HotCalls
import PySem.Challenge.RW_landlines_k09_a_ground_kept
set_option Elab.async false
set_option linter.all false
set_option maxRecDepth 100000
set_option autoImplicit false
set_option maxHeartbeats 4000000
set_option exponentiation.threshold 100000
/-! PD: pure data over the hand layer. An expression is told by what it evaluates to (plain data), a statement by how it changes a plain environment; the heap is hidden here, once. -/
namespace PD
open PySem L2

abbrev D := PyData
abbrev Ex (H H' : Hp) : Prop := Same H H'
theorem Ex.seqT {K : PySem.W.Frag} {H H' : Hp} {a : Addr} {xs : List V} (e : Ex H H') (h : SqT K H a xs) : SqT K H' a xs := by
  rcases h with (h | ⟨o, h⟩) | h
  · exact .inl (.inl (e _ _ h))
  · exact .inl (.inr ⟨o, e _ _ h⟩)
  · exact .inr h
theorem Ex.new {H : Hp} {p : Addr} {o : HO} (h : H p = none) : Ex H (upd H p o) := fun a u e => by
  rw [upd_ne (ne_of_none e h)]
  exact e

mutual
/-- how data stands in the heap: tuples as they were laid, lists as they are read -/
inductive Dp (K : PySem.W.Frag) (H : Hp) : V → PyData → Prop
  | non : Dp K H .non .none
  | bl (b : Bool) : Dp K H (.bl b) (.bool b)
  | int (i : Int) : Dp K H (.int i) (.int i)
  | str (x : Str) : Dp K H (.str x) (.str x)
  | lst {a : Addr} {xs : List V} {ds : List PyData} : SqL K H a xs → DpAll K H xs ds → Dp K H (.ref a) (.list ds)
  | tup {a : Addr} {xs : List V} {ds : List PyData} : H a = some (.tup xs) → DpAll K H xs ds → Dp K H (.ref a) (.tuple ds)
  | dct {a : Addr} : H a = some (.dK []) → Dp K H (.ref a) (.dict [])
inductive DpAll (K : PySem.W.Frag) (H : Hp) : List V → List PyData → Prop
  | nil : DpAll K H [] []
  | cons {v : V} {vs : List V} {d : PyData} {ds : List PyData} : Dp K H v d → DpAll K H vs ds → DpAll K H (v :: vs) (d :: ds)
end
section
variable {K : PySem.W.Frag} {H H' : Hp}
mutual
theorem Dp.l2 : ∀ {v : V} {d : PyData}, Dp K H v d → d.canLay0 = true → L2.Dp K H v d
  | _, _, .non, _ => .non
  | _, _, .bl b, _ => .bl b
  | _, _, .int i, _ => .int i
  | _, _, .str x, _ => .str x
  | _, _, .lst h a, q => .lst h (DpAll.l2 a (by simpa [PyData.canLay0] using q))
  | _, _, .tup h a, q => .tup (SqT.of h) (DpAll.l2 a (by simpa [PyData.canLay0] using q))
  | _, _, .dct _, q => by simp [PyData.canLay0] at q
theorem DpAll.l2 : ∀ {vs : List V} {ds : List PyData}, DpAll K H vs ds → PyData.canLayAll0 ds = true → L2.DpAll K H vs ds
  | _, _, .nil, _ => .nil
  | _, _, .cons h a, q => by
    simp only [PyData.canLayAll0, Bool.and_eq_true] at q
    exact .cons (Dp.l2 h q.1) (DpAll.l2 a q.2)
end
theorem DpAll.len : ∀ {vs : List V} {ds : List PyData}, DpAll K H vs ds → vs.length = ds.length
  | _, _, .nil => rfl
  | _, _, .cons _ a => by simp [DpAll.len a]
theorem DpAll.get : ∀ {vs : List V} {ds : List PyData} {i : Nat} {d : PyData}, DpAll K H vs ds → ds[i]? = some d → ∃ v, vs[i]? = some v ∧ Dp K H v d
  | _, _, i, d, .nil, e => by simp at e
  | _, _, 0, d, .cons h _, e => by
    have e : _ = d := Option.some.inj e
    subst e
    exact ⟨_, rfl, h⟩
  | _, _, i + 1, d, .cons _ a, e => by
    obtain ⟨v, e1, h⟩ := DpAll.get (i := i) (d := d) a (by simpa using e)
    exact ⟨v, by simpa using e1, h⟩
theorem DpAll.get' : ∀ {vs : List V} {ds : List PyData} {i : Nat} {v : V}, DpAll K H vs ds → vs[i]? = some v → ∃ d, ds[i]? = some d ∧ Dp K H v d
  | _, _, i, d, .nil, e => by simp at e
  | _, _, 0, d, .cons h _, e => by
    have e : _ = d := Option.some.inj e
    subst e
    exact ⟨_, rfl, h⟩
  | _, _, i + 1, d, .cons _ a, e => by
    obtain ⟨v, e1, h⟩ := DpAll.get' (i := i) (v := d) a (by simpa using e)
    exact ⟨v, by simpa using e1, h⟩
theorem DpAll.append : ∀ {vs ws : List V} {ds es : List PyData}, DpAll K H vs ds → DpAll K H ws es → DpAll K H (vs ++ ws) (ds ++ es)
  | _, _, _, _, .nil, b => b
  | _, _, _, _, .cons h a, b => .cons h (DpAll.append a b)
theorem DpAll.take : ∀ {vs : List V} {ds : List PyData} (n : Nat), DpAll K H vs ds → DpAll K H (vs.take n) (ds.take n)
  | _, _, 0, _ => .nil
  | _, _, _ + 1, .nil => .nil
  | _, _, n + 1, .cons h a => .cons h (DpAll.take n a)
theorem DpAll.drop : ∀ {vs : List V} {ds : List PyData} (n : Nat), DpAll K H vs ds → DpAll K H (vs.drop n) (ds.drop n)
  | _, _, 0, r => r
  | _, _, _ + 1, .nil => .nil
  | _, _, n + 1, .cons _ a => DpAll.drop n a
theorem DpAll.set {v : V} {d : PyData} (r : Dp K H v d) : ∀ {vs : List V} {ds : List PyData} (i : Nat), DpAll K H vs ds → DpAll K H (vs.set i v) (ds.set i d)
  | _, _, _, .nil => .nil
  | _, _, 0, .cons _ a => .cons r a
  | _, _, i + 1, .cons h a => .cons h (DpAll.set r i a)
theorem DpAll.rep {vs : List V} {ds : List PyData} (r : DpAll K H vs ds) : ∀ k : Nat, DpAll K H (List.replicate k vs).flatten (List.replicate k ds).flatten
  | 0 => .nil
  | k + 1 => by
    rw [List.replicate_succ, List.replicate_succ, List.flatten_cons, List.flatten_cons]
    exact r.append (DpAll.rep r k)
end
section
variable {K : PySem.W.Frag} {H H' : Hp}
mutual
theorem dp_mono (e : Ex H H') : ∀ {v : V} {d : D}, Dp K H v d → Dp K H' v d
  | _, _, .non => .non
  | _, _, .bl b => .bl b
  | _, _, .int i => .int i
  | _, _, .str x => .str x
  | _, _, .lst h a => .lst (e.seq h) (dpAll_mono e a)
  | _, _, .tup h a => .tup (e _ _ h) (dpAll_mono e a)
  | _, _, .dct h => .dct (e _ _ h)
theorem dpAll_mono (e : Ex H H') : ∀ {vs : List V} {ds : List D}, DpAll K H vs ds → DpAll K H' vs ds
  | _, _, .nil => .nil
  | _, _, .cons h a => .cons (dp_mono e h) (dpAll_mono e a)
end
theorem dp_int {v : V} {i : Int} (h : Dp K H v (.int i)) : v = .int i := by cases h; rfl
theorem dp_bl {v : V} {b : Bool} (h : Dp K H v (.bool b)) : v = .bl b := by cases h; rfl
theorem dp_non {v : V} (h : Dp K H v .none) : v = .non := by cases h; rfl
theorem dp_str {v : V} {x : Str} (h : Dp K H v (.str x)) : v = .str x := by cases h; rfl
theorem dp_lst {v : V} {ds : List D} (h : Dp K H v (.list ds)) : ∃ a xs, v = .ref a ∧ SqL K H a xs ∧ DpAll K H xs ds := by
  cases h with
  | lst h a => exact ⟨_, _, rfl, h, a⟩
theorem dp_tup {v : V} {ds : List D} (h : Dp K H v (.tuple ds)) : ∃ a xs, v = .ref a ∧ H a = some (.tup xs) ∧ DpAll K H xs ds := by
  cases h with
  | tup h a => exact ⟨_, _, rfl, h, a⟩
theorem dpAll_ints : ∀ (ns : List Int), DpAll K H (ns.map V.int) (ns.map PyData.int)
  | [] => .nil
  | n :: r => .cons (.int n) (dpAll_ints r)
theorem dpAll_intsV : ∀ {vs : List V} {ns : List Int}, DpAll K H vs (ns.map PyData.int) → vs = ns.map V.int
  | _, [], .nil => rfl
  | _, n :: r, .cons h a => by
    have e1 := dp_int h
    have e2 := dpAll_intsV a
    subst e1 e2
    rfl
end

/-! ### a frozen part F of the heap H, and how both grow -/
structure Gr (F H F' H' : Hp) : Prop where
  f : Ex F F'
  h : Ex H H'
  s : Ex F' H'
  n : ∀ a o, F a = none → F' a = some o → H a = none ∨ ∃ xs, o = .tup xs
section
variable {F H F' H' F2 H2 : Hp}
theorem Gr.refl (s : Ex F H) : Gr F H F H := ⟨Same.refl _, Same.refl _, s, fun a o h e => by rw [h] at e; cases e⟩
theorem Gr.trans (a : Gr F H F' H') (b : Gr F' H' F2 H2) : Gr F H F2 H2 := by
  refine ⟨a.f.trans b.f, a.h.trans b.h, b.s, fun x o h e => ?_⟩
  cases q : F' x with
  | some o1 =>
    have e1 := b.f x o1 q
    rw [e] at e1
    cases e1
    exact a.n x _ h q
  | none =>
    rcases b.n x o q e with z | z
    · exact .inl (a.h.free z)
    · exact .inr z
theorem Gr.mut {l : Addr} {o : HO} (a : Gr F H F' H') (h0 : H l = none) (hf : F' l = none) : Gr F H F' (upd H' l o) :=
  ⟨a.f, fun x u e => by rw [upd_ne (ne_of_none e h0)]; exact a.h x u e, fun x u e => by rw [upd_ne (ne_of_none e hf)]; exact a.s x u e, a.n⟩
end

/-! ### a ground: an object with a size, a dict of ints, a count -/
structure Gs where
  C : Addr
  p : Addr
  d : Addr
  n : Int
  kv : List (Int × D)
  came : Int
def gFlds (n came : Int) (d : Addr) : List (Str × V) := [("size", .int n), ("kept", .ref d), ("came", .int came)]
def GAt (K : PySem.W.Frag) (F H : Hp) (g : Gs) : Prop :=
  ∃ dx kvs, H g.p = some (.ins g.C dx (gFlds g.n g.came g.d)) ∧ H g.d = some (.dK kvs) ∧ kvs.map (·.1) = g.kv.map (fun x => (Sum.inl x.1 : Key)) ∧ DpAll K F (kvs.map (·.2)) (g.kv.map (·.2))
theorem GAt.mono {K : PySem.W.Frag} {F F' H H' : Hp} {g : Gs} (h : GAt K F H g) (e1 : Ex F F') (e2 : Ex H H') : GAt K F' H' g := by
  obtain ⟨dx, kvs, h1, h2, h3, h4⟩ := h
  exact ⟨dx, kvs, e2 _ _ h1, e2 _ _ h2, h3, dpAll_mono e1 h4⟩
/-- a list that stands, with its data -/
def LAt (K : PySem.W.Frag) (F H : Hp) (p : Addr) (ds : List D) : Prop := ∃ xs, H p = some (.lst xs) ∧ DpAll K F xs ds
theorem LAt.mono {K : PySem.W.Frag} {F F' H H' : Hp} {p : Addr} {ds : List D} (h : LAt K F H p ds) (e1 : Ex F F') (e2 : Ex H H') : LAt K F' H' p ds := by
  obtain ⟨xs, h1, h2⟩ := h
  exact ⟨xs, e2 _ _ h1, dpAll_mono e1 h2⟩

/-! ### slots -/
inductive Sl where
  | no
  | v (d : D)
  | own (ds : List D)
  | keys (ks : List (List Int))
  /-- an address, whatever stands there -/
  | adr (a : Addr)
  /-- a list of addresses -/
  | adrs (ps : List Addr)
  /-- a ground that stands at the entry; a list of such -/
  | gnd (g : Gs)
  | gnds (gs : List Gs)
  /-- a list that stands at the entry; a list of such -/
  | lstv (p : Addr) (ds : List D)
  | lsts (ls : List (Addr × List D))
def Sl.isOwn : Sl → Bool
  | .own _ => true
  | .keys _ => true
  | _ => false
def SlOk (K : PySem.W.Frag) (H0 F H : Hp) (o : Option (Option V)) : Sl → Prop
  | .no => True
  | .v d => ∃ x, o = some (some x) ∧ Dp K F x d
  | .own ds => ∃ a xs, o = some (some (.ref a)) ∧ H0 a = none ∧ F a = none ∧ H a = some (.lst xs) ∧ DpAll K F xs ds
  | .adr a => o = some (some (.ref a))
  | .adrs ps => ∃ a, o = some (some (.ref a)) ∧ F a = some (.lst (ps.map V.ref))
  | .gnd g => o = some (some (.ref g.p)) ∧ GAt K F H0 g
  | .gnds gs => ∃ a, o = some (some (.ref a)) ∧ F a = some (.lst (gs.map fun g => V.ref g.p)) ∧ ∀ g, g ∈ gs → GAt K F H0 g
  | .lstv p ds => o = some (some (.ref p)) ∧ LAt K F H0 p ds
  | .lsts ls => ∃ a, o = some (some (.ref a)) ∧ F a = some (.lst (ls.map fun l => V.ref l.1)) ∧ ∀ l, l ∈ ls → LAt K F H0 l.1 l.2
  | .keys ks => ∃ a, o = some (some (.ref a)) ∧ H0 a = none ∧ F a = none ∧ H a = some (.dT (ks.map fun k => (k.map Sum.inl, V.bl true)))
structure Sd (K : PySem.W.Frag) (F0 H0 F H : Hp) (σ : L2.St) (env : List Sl) : Prop where
  gr : Gr F0 H0 F H
  len : σ.length = env.length
  ok : ∀ (i : Nat) (s : Sl), env[i]? = some s → SlOk K H0 F H (σ[i]?) s
  di : ∀ (i j : Nat) (s t : Sl) (a : Addr), env[i]? = some s → env[j]? = some t → s.isOwn = true → t.isOwn = true → σ[i]? = some (some (.ref a)) → σ[j]? = some (some (.ref a)) → i = j
section
variable {K : PySem.W.Frag} {F0 H0 F H F' H' : Hp} {σ : L2.St} {env : List Sl}
theorem own_stays {a : Addr} {o : HO} (g : Gr F H F' H') (hf : F a = none) (hh : H a = some o) (ho : ∀ xs, o ≠ .tup xs) : F' a = none := by
  cases q : F' a with
  | none => rfl
  | some u =>
    rcases g.n a u hf q with z | ⟨xs, z⟩
    · rw [hh] at z
      cases z
    · have e1 := g.s a u q
      rw [g.h a o hh] at e1
      cases e1
      exact absurd z (ho xs)
theorem SlOk.frz {o : Option (Option V)} {s : Sl} (g : Ex F F') (h : SlOk K H0 F H o s) (hn : s.isOwn = false) : SlOk K H0 F' H' o s := by
  cases s with
  | no => trivial
  | adr a => exact h
  | v d =>
    obtain ⟨x, e, h⟩ := h
    exact ⟨x, e, dp_mono g h⟩
  | adrs ps =>
    obtain ⟨a, e, h⟩ := h
    exact ⟨a, e, g _ _ h⟩
  | gnd q => exact ⟨h.1, h.2.mono g (Same.refl _)⟩
  | gnds gs =>
    obtain ⟨a, e, h1, h2⟩ := h
    exact ⟨a, e, g _ _ h1, fun q hq => (h2 q hq).mono g (Same.refl _)⟩
  | lstv p ds => exact ⟨h.1, h.2.mono g (Same.refl _)⟩
  | lsts ls =>
    obtain ⟨a, e, h1, h2⟩ := h
    exact ⟨a, e, g _ _ h1, fun q hq => (h2 q hq).mono g (Same.refl _)⟩
  | own ds => cases hn
  | keys ks => cases hn
theorem SlOk.grow {o : Option (Option V)} {s : Sl} (g : Gr F H F' H') (h : SlOk K H0 F H o s) : SlOk K H0 F' H' o s := by
  cases s with
  | no => trivial
  | adr a => exact h
  | adrs ps => exact SlOk.frz g.f h rfl
  | gnd q => exact SlOk.frz (s := .gnd q) g.f h rfl
  | gnds gs => exact SlOk.frz (s := .gnds gs) g.f h rfl
  | lstv p ds => exact SlOk.frz (s := .lstv p ds) g.f h rfl
  | lsts ls => exact SlOk.frz (s := .lsts ls) g.f h rfl
  | v d =>
    obtain ⟨x, e, h⟩ := h
    exact ⟨x, e, dp_mono g.f h⟩
  | own ds =>
    obtain ⟨a, xs, e, h0, hf, hh, hd⟩ := h
    exact ⟨a, xs, e, h0, own_stays g hf hh (fun _ z => nomatch z), g.h _ _ hh, dpAll_mono g.f hd⟩
  | keys ks =>
    obtain ⟨a, e, h0, hf, hh⟩ := h
    exact ⟨a, e, h0, own_stays g hf hh (fun _ z => nomatch z), g.h _ _ hh⟩
theorem Sd.grow (S : Sd K F0 H0 F H σ env) (g : Gr F H F' H') : Sd K F0 H0 F' H' σ env :=
  ⟨S.gr.trans g, S.len, fun i s e => (S.ok i s e).grow g, S.di⟩
theorem Sd.ex (S : Sd K F0 H0 F H σ env) : Ex F H := S.gr.s
theorem Sd.set_v {i : Nat} {v : V} {d : D} (S : Sd K F0 H0 F H σ env) (h : Dp K F v d) : Sd K F0 H0 F H (σ.set i (some v)) (env.set i (.v d)) := by
  refine ⟨S.gr, by simp [S.len], fun j s e => ?_, fun j k s t a e1 e2 h1 h2 e3 e4 => ?_⟩
  · by_cases hj : i = j
    · subst hj
      by_cases hl : i < env.length
      · rw [List.getElem?_set_self hl] at e
        cases e
        exact ⟨v, by rw [List.getElem?_set_self (by rw [S.len]; exact hl)], h⟩
      · rw [List.getElem?_eq_none (by simpa using hl)] at e
        cases e
    · rw [List.getElem?_set_ne hj] at e
      rw [List.getElem?_set_ne hj]
      exact S.ok j s e
  · have nj : ∀ {m : Nat} {u : Sl}, (env.set i (.v d))[m]? = some u → u.isOwn = true → i ≠ m := fun {m u} q1 q2 q3 => by
      subst q3
      by_cases hl : i < env.length
      · rw [List.getElem?_set_self hl] at q1
        cases q1
        cases q2
      · rw [List.getElem?_eq_none (by simpa using hl)] at q1
        cases q1
    have n1 := nj e1 h1
    have n2 := nj e2 h2
    rw [List.getElem?_set_ne n1] at e1 e3
    rw [List.getElem?_set_ne n2] at e2 e4
    exact S.di j k s t a e1 e2 h1 h2 e3 e4
theorem Sd.set_adr {i : Nat} {p : Addr} (S : Sd K F0 H0 F H σ env) : Sd K F0 H0 F H (σ.set i (some (.ref p))) (env.set i (.adr p)) := by
  refine ⟨S.gr, by simp [S.len], fun j s e => ?_, fun j k s t a e1 e2 h1 h2 e3 e4 => ?_⟩
  · by_cases hj : i = j
    · subst hj
      by_cases hl : i < env.length
      · rw [List.getElem?_set_self hl] at e
        cases e
        show (σ.set i (some (V.ref p)))[i]? = _
        rw [List.getElem?_set_self (by rw [S.len]; exact hl)]
      · rw [List.getElem?_eq_none (by simpa using hl)] at e
        cases e
    · rw [List.getElem?_set_ne hj] at e
      rw [List.getElem?_set_ne hj]
      exact S.ok j s e
  · have nj : ∀ {m : Nat} {u : Sl}, (env.set i (.adr p))[m]? = some u → u.isOwn = true → i ≠ m := fun {m u} q1 q2 q3 => by
      subst q3
      by_cases hl : i < env.length
      · rw [List.getElem?_set_self hl] at q1
        cases q1
        cases q2
      · rw [List.getElem?_eq_none (by simpa using hl)] at q1
        cases q1
    have n1 := nj e1 h1
    have n2 := nj e2 h2
    rw [List.getElem?_set_ne n1] at e1 e3
    rw [List.getElem?_set_ne n2] at e2 e4
    exact S.di j k s t a e1 e2 h1 h2 e3 e4
/-- a slot is forgotten -/
theorem Sd.drop {i : Nat} {o : Option V} (S : Sd K F0 H0 F H σ env) : Sd K F0 H0 F H (σ.set i o) (env.set i .no) := by
  refine ⟨S.gr, by simp [S.len], fun j s e => ?_, fun j k s t a e1 e2 h1 h2 e3 e4 => ?_⟩
  · by_cases hj : i = j
    · subst hj
      by_cases hl : i < env.length
      · rw [List.getElem?_set_self hl] at e
        cases e
        trivial
      · rw [List.getElem?_eq_none (by simpa using hl)] at e
        cases e
    · rw [List.getElem?_set_ne hj] at e
      rw [List.getElem?_set_ne hj]
      exact S.ok j s e
  · have nj : ∀ {m : Nat} {u : Sl}, (env.set i .no)[m]? = some u → u.isOwn = true → i ≠ m := fun {m u} q1 q2 q3 => by
      subst q3
      by_cases hl : i < env.length
      · rw [List.getElem?_set_self hl] at q1
        cases q1
        cases q2
      · rw [List.getElem?_eq_none (by simpa using hl)] at q1
        cases q1
    have n1 := nj e1 h1
    have n2 := nj e2 h2
    rw [List.getElem?_set_ne n1] at e1 e3
    rw [List.getElem?_set_ne n2] at e2 e4
    exact S.di j k s t a e1 e2 h1 h2 e3 e4
theorem Sd.forget {i : Nat} (S : Sd K F0 H0 F H σ env) : Sd K F0 H0 F H σ (env.set i .no) := by
  refine ⟨S.gr, by simp [S.len], fun j s e => ?_, fun j k s t a e1 e2 h1 h2 e3 e4 => ?_⟩
  · by_cases hj : i = j
    · subst hj
      by_cases hl : i < env.length
      · rw [List.getElem?_set_self hl] at e
        cases e
        trivial
      · rw [List.getElem?_eq_none (by simpa using hl)] at e
        cases e
    · rw [List.getElem?_set_ne hj] at e
      exact S.ok j s e
  · have nj : ∀ {m : Nat} {u : Sl}, (env.set i .no)[m]? = some u → u.isOwn = true → i ≠ m := fun {m u} q1 q2 q3 => by
      subst q3
      by_cases hl : i < env.length
      · rw [List.getElem?_set_self hl] at q1
        cases q1
        cases q2
      · rw [List.getElem?_eq_none (by simpa using hl)] at q1
        cases q1
    have n1 := nj e1 h1
    have n2 := nj e2 h2
    rw [List.getElem?_set_ne n1] at e1
    rw [List.getElem?_set_ne n2] at e2
    exact S.di j k s t a e1 e2 h1 h2 e3 e4
/-- a new owned object (a list, a dict) comes to a slot -/
theorem Sd.set_new {i : Nat} {p : Addr} {s0 : Sl} (S : Sd K F0 H0 F H σ env) (g : Gr F H F' H') (hp : H p = none) (hs : s0.isOwn = true) (h : SlOk K H0 F' H' (some (some (.ref p))) s0) : Sd K F0 H0 F' H' (σ.set i (some (.ref p))) (env.set i s0) := by
  have S' := S.grow g
  refine ⟨S'.gr, by simp [S.len], fun j s e => ?_, fun j k s t a e1 e2 h1 h2 e3 e4 => ?_⟩
  · by_cases hj : i = j
    · subst hj
      by_cases hl : i < env.length
      · rw [List.getElem?_set_self hl] at e
        cases e
        rw [List.getElem?_set_self (by rw [S.len]; exact hl)]
        exact h
      · rw [List.getElem?_eq_none (by simpa using hl)] at e
        cases e
    · rw [List.getElem?_set_ne hj] at e
      rw [List.getElem?_set_ne hj]
      exact S'.ok j s e
  · -- another owned slot stands at an address that H knew
    have old : ∀ {m : Nat} {u : Sl} {b : Addr}, i ≠ m → env[m]? = some u → u.isOwn = true → σ[m]? = some (some (.ref b)) → b ≠ p := fun {m u b} _ q1 q2 q3 => by
      have z := S.ok m u q1
      cases u with
      | no => cases q2
      | adr a => cases q2
      | adrs a => cases q2
      | gnd a => cases q2
      | gnds a => cases q2
      | lstv a b => cases q2
      | lsts a => cases q2
      | v d => cases q2
      | own ds =>
        obtain ⟨a', xs, e', _, _, hh, _⟩ := z
        rw [q3] at e'
        cases e'
        exact ne_of_none hh hp
      | keys ks =>
        obtain ⟨a', e', _, _, hh⟩ := z
        rw [q3] at e'
        cases e'
        exact ne_of_none hh hp
    by_cases hj : i = j
    · by_cases hk : i = k
      · exact hj.symm.trans hk
      · subst hj
        by_cases hl : i < env.length
        · rw [List.getElem?_set_self (by rw [S.len]; exact hl)] at e3
          cases e3
          rw [List.getElem?_set_ne hk] at e2 e4
          exact absurd rfl (old hk e2 h2 e4)
        · rw [List.getElem?_eq_none (by simpa using hl)] at e1
          cases e1
    · rw [List.getElem?_set_ne hj] at e1 e3
      by_cases hk : i = k
      · subst hk
        by_cases hl : i < env.length
        · rw [List.getElem?_set_self (by rw [S.len]; exact hl)] at e4
          cases e4
          exact absurd rfl (old hj e1 h1 e3)
        · rw [List.getElem?_eq_none (by simpa using hl)] at e2
          cases e2
      · rw [List.getElem?_set_ne hk] at e2 e4
        exact S.di j k s t a e1 e2 h1 h2 e3 e4
/-- an owned object is changed -/
theorem Sd.mut {i : Nat} {a : Addr} {o : HO} {s0 s1 : Sl} (S : Sd K F0 H0 F H σ env) (hi : env[i]? = some s0) (ho : s0.isOwn = true) (ha : σ[i]? = some (some (.ref a))) (h0 : H0 a = none) (hf : F a = none) (hs : s1.isOwn = true)
    (h : SlOk K H0 F (upd H a o) (some (some (.ref a))) s1) : Sd K F0 H0 F (upd H a o) σ (env.set i s1) := by
  have hl : i < env.length := (List.getElem?_eq_some_iff.mp hi).1
  refine ⟨S.gr.mut h0 hf, by simp [S.len], fun j s e => ?_, fun j k s t b e1 e2 h1 h2 e3 e4 => ?_⟩
  · by_cases hj : i = j
    · subst hj
      rw [List.getElem?_set_self hl] at e
      cases e
      rw [ha]
      exact h
    · rw [List.getElem?_set_ne hj] at e
      have z := S.ok j s e
      cases s with
      | no => trivial
      | adr a => exact z
      | adrs a => exact z
      | gnd a => exact z
      | gnds a => exact z
      | lstv a b => exact z
      | lsts a => exact z
      | v d => exact z
      | own ds =>
        obtain ⟨b, xs, e', z0, zf, hh, hd⟩ := z
        have nb : b ≠ a := fun q => hj (S.di i j _ _ a hi e ho rfl ha (by rw [e', q]))
        exact ⟨b, xs, e', z0, zf, by rw [upd_ne nb]; exact hh, hd⟩
      | keys ks =>
        obtain ⟨b, e', z0, zf, hh⟩ := z
        have nb : b ≠ a := fun q => hj (S.di i j _ _ a hi e ho rfl ha (by rw [e', q]))
        exact ⟨b, e', z0, zf, by rw [upd_ne nb]; exact hh⟩
  · have tr : ∀ {m : Nat} {u : Sl}, (env.set i s1)[m]? = some u → u.isOwn = true → ∃ u', env[m]? = some u' ∧ u'.isOwn = true := fun {m u} q1 q2 => by
      by_cases hm : i = m
      · subst hm
        exact ⟨s0, hi, ho⟩
      · rw [List.getElem?_set_ne hm] at q1
        exact ⟨u, q1, q2⟩
    obtain ⟨u1, a1, b1⟩ := tr e1 h1
    obtain ⟨u2, a2, b2⟩ := tr e2 h2
    exact S.di j k u1 u2 b a1 a2 b1 b2 e3 e4
/-- an owned list is frozen: from here on it is a value -/
theorem Sd.freeze {i : Nat} {ds : List D} (S : Sd K F0 H0 F H σ env) (hi : env[i]? = some (.own ds)) : ∃ F', Gr F0 H0 F' H ∧ Ex F F' ∧ Sd K F0 H0 F' H σ (env.set i (.v (.list ds))) := by
  have hl : i < env.length := (List.getElem?_eq_some_iff.mp hi).1
  obtain ⟨a, xs, ea, h0, hf, hh, hd⟩ := S.ok i _ hi
  have ex : Ex F (upd F a (.lst xs)) := Ex.new hf
  have gr : Gr F0 H0 (upd F a (.lst xs)) H := by
    refine ⟨S.gr.f.trans ex, S.gr.h, fun b o e => ?_, fun b o e0 e => ?_⟩
    · by_cases hb : b = a
      · subst hb
        rw [upd_same] at e
        cases e
        exact hh
      · rw [upd_ne hb] at e
        exact S.ex b o e
    · by_cases hb : b = a
      · subst hb
        exact .inl h0
      · rw [upd_ne hb] at e
        exact S.gr.n b o e0 e
  refine ⟨_, gr, ex, gr, by simp [S.len], fun j s e => ?_, fun j k s t b e1 e2 h1 h2 e3 e4 => ?_⟩
  · by_cases hj : i = j
    · subst hj
      rw [List.getElem?_set_self hl] at e
      cases e
      exact ⟨_, ea, .lst (.inl (.inl upd_same)) (dpAll_mono ex hd)⟩
    · rw [List.getElem?_set_ne hj] at e
      have z := S.ok j s e
      cases s with
      | no => trivial
      | adr a => exact z
      | adrs a => exact SlOk.frz ex z rfl
      | gnd a => exact SlOk.frz (s := .gnd a) ex z rfl
      | gnds a => exact SlOk.frz (s := .gnds a) ex z rfl
      | lstv a b => exact SlOk.frz (s := .lstv a b) ex z rfl
      | lsts a => exact SlOk.frz (s := .lsts a) ex z rfl
      | v d =>
        obtain ⟨x, e', z⟩ := z
        exact ⟨x, e', dp_mono ex z⟩
      | own es =>
        obtain ⟨b, ys, e', z0, zf, zh, zd⟩ := z
        have nb : b ≠ a := fun q => hj (S.di i j _ _ a hi e rfl rfl ea (by rw [e', q]))
        exact ⟨b, ys, e', z0, by rw [upd_ne nb]; exact zf, zh, dpAll_mono ex zd⟩
      | keys ks =>
        obtain ⟨b, e', z0, zf, zh⟩ := z
        have nb : b ≠ a := fun q => hj (S.di i j _ _ a hi e rfl rfl ea (by rw [e', q]))
        exact ⟨b, e', z0, by rw [upd_ne nb]; exact zf, zh⟩
  · have nj : ∀ {m : Nat} {u : Sl}, (env.set i (.v (.list ds)))[m]? = some u → u.isOwn = true → i ≠ m := fun {m u} q1 q2 q3 => by
      subst q3
      rw [List.getElem?_set_self hl] at q1
      cases q1
      cases q2
    have n1 := nj e1 h1
    have n2 := nj e2 h2
    rw [List.getElem?_set_ne n1] at e1
    rw [List.getElem?_set_ne n2] at e2
    exact S.di j k s t b e1 e2 h1 h2 e3 e4
end
end PD
/-! PD: expressions -/
namespace PD
open PySem L2

/-- what an expression evaluates to: data; a list that is new -/
inductive Vr where
  | ok (d : D)
  | fr (ds : List D)
  /-- a new tuple whose last item is a new list -/
  | tf (ds es : List D)
def PostV (K : PySem.W.Frag) (F H : Hp) (Q : VK) : Vr → Prop
  | .ok d => ∀ v F' H', Gr F H F' H' → Dp K F' v d → Q v H'
  | .fr ds => ∀ p xs F' H', Gr F H F' H' → H p = none → F' p = none → H' p = some (.lst xs) → DpAll K F' xs ds → Q (.ref p) H'
  | .tf ds es => ∀ a l xs ys F' H', Gr F H F' H' → H a = none → H l = none → F' a = none → F' l = none → a ≠ l → H' a = some (.tup (xs ++ [.ref l])) → H' l = some (.lst ys) → DpAll K F' xs ds → DpAll K F' ys es → Q (.ref a) H'
theorem gr_freeze {F H F' H' : Hp} {p : Addr} {xs : List V} (g : Gr F H F' H') (hp : H p = none) (hf : F' p = none) (hh : H' p = some (.lst xs)) : Gr F H (upd F' p (.lst xs)) H' := by
  refine ⟨g.f.trans (Ex.new hf), g.h, fun b o e => ?_, fun b o e0 e => ?_⟩
  · by_cases hb : b = p
    · subst hb
      rw [upd_same] at e
      cases e
      exact hh
    · rw [upd_ne hb] at e
      exact g.s b o e
  · by_cases hb : b = p
    · subst hb
      exact .inl hp
    · rw [upd_ne hb] at e
      exact g.n b o e0 e
theorem PostV.list {K : PySem.W.Frag} {F H : Hp} {Q : VK} {ds : List D} (h : PostV K F H Q (.ok (.list ds))) : PostV K F H Q (.fr ds) := fun p xs F' H' g hp hf hh hd =>
  h (.ref p) (upd F' p (.lst xs)) H' (gr_freeze g hp hf hh) (.lst (.inl (.inl upd_same)) (dpAll_mono (Ex.new hf) hd))
theorem PostV.back {K : PySem.W.Frag} {F H F' H' : Hp} {Q : VK} {o : Vr} (g : Gr F H F' H') (h : PostV K F H Q o) : PostV K F' H' Q o := by
  cases o with
  | ok d => exact fun v F2 H2 g2 hd => h v F2 H2 (g.trans g2) hd
  | fr ds => exact fun p xs F2 H2 g2 hp hf hh hd => h p xs F2 H2 (g.trans g2) (g.h.free hp) hf hh hd
  | tf ds es => exact fun a l xs ys F2 H2 g2 ha hl fa fl hne h1 h2 d1 d2 => h a l xs ys F2 H2 (g.trans g2) (g.h.free ha) (g.h.free hl) fa fl hne h1 h2 d1 d2

def BE (X : Cx) (e : Expr) (env : List Sl) (o : Vr) : Prop :=
  ∃ t : TE, PE X e t ∧ ∀ (F0 H0 F H : Hp) (σ : L2.St), Sd X.K F0 H0 F H σ env → ∀ Q : VK, PostV X.K F H Q o → t σ H Q
/-- readable here and now (an owned list may be in it) -/
def BR (X : Cx) (e : Expr) (env : List Sl) (d : D) : Prop :=
  ∃ t : TE, PE X e t ∧ ∀ (F0 H0 F H : Hp) (σ : L2.St), Sd X.K F0 H0 F H σ env → ∀ Q : VK, (∀ v F' H', Gr F H F' H' → Dp X.K H' v d → Q v H') → t σ H Q
def BT (X : Cx) (e : Expr) (env : List Sl) (b : Bool) : Prop :=
  ∃ t : TT, PT X e t ∧ ∀ (F0 H0 F H : Hp) (σ : L2.St), Sd X.K F0 H0 F H σ env → ∀ Q : Bool → Hp → Prop, (∀ F' H', Gr F H F' H' → Q b H') → t σ H Q
def BW (X : Cx) (e : Expr) (env : List Sl) (b : Bool) : Prop :=
  ∃ t : TT, PW X e t ∧ ∀ (F0 H0 F H : Hp) (σ : L2.St), Sd X.K F0 H0 F H σ env → ∀ Q : Bool → Hp → Prop, (∀ F' H', Gr F H F' H' → Q b H') → t σ H Q
def BA (X : Cx) (es : List Expr) (env : List Sl) (ds : List D) : Prop :=
  ∃ t : TA, PA X es t ∧ ∀ (F0 H0 F H : Hp) (σ : L2.St), Sd X.K F0 H0 F H σ env → ∀ Q : List V → Hp → Prop, (∀ vs F' H', Gr F H F' H' → DpAll X.K F' vs ds → Q vs H') → t σ H Q
def BB (X : Cx) (es : List Expr) (env : List Sl) (ds : List D) : Prop :=
  ∃ t : TA, PA X es t ∧ ∀ (F0 H0 F H : Hp) (σ : L2.St), Sd X.K F0 H0 F H σ env → ∀ Q : List V → Hp → Prop, (∀ vs F' H', Gr F H F' H' → DpAll X.K H' vs ds → Q vs H') → t σ H Q

section
variable {X : Cx} {env : List Sl} {e a b : Expr} {es : List Expr} {d d1 d2 : D} {ds : List D} {o : Vr} {pos : Pos} {b1 b2 : Bool}
theorem BE.list (h : BE X e env (.fr ds)) : BE X e env (.ok (.list ds)) := by
  obtain ⟨t, h1, h2⟩ := h
  exact ⟨t, h1, fun F0 H0 F H σ S Q q => h2 F0 H0 F H σ S Q q.list⟩
theorem BE.r (h : BE X e env (.ok d)) : BR X e env d := by
  obtain ⟨t, h1, h2⟩ := h
  exact ⟨t, h1, fun F0 H0 F H σ S Q q => h2 F0 H0 F H σ S Q fun v F' H' g hd => q v F' H' g (dp_mono g.s hd)⟩
theorem BE.to (h : BE X e env o) {o' : Vr} (q : o = o') : BE X e env o' := q ▸ h
theorem BT.to (h : BT X e env b1) (q : b1 = b2) : BT X e env b2 := q ▸ h

/-! ### names, constants -/
theorem be_v (i : Nat) {x : Str} (hi : env[i]? = some (.v d)) (hN : X.N[i]? = some x := by rfl) (hv : Vis X.env.scope x := by first | exact Or.inl rfl | exact Or.inr (Or.inl rfl) | exact Or.inr (Or.inr rfl)) (hd : (x == ("__debug__" : Str)) = false := by decide)
    (hcd : (x == ("__classdict__" : Str)) = false := by decide) : BE X (.Name x pos) env (.ok d) := by
  refine ⟨_, pe_var hN hv hd hcd, fun F0 H0 F H σ S Q q => ?_⟩
  obtain ⟨v, e1, h1⟩ := S.ok i _ hi
  exact ⟨v, e1, q v F H (Gr.refl S.ex) h1⟩
theorem br_own (i : Nat) {x : Str} (hi : env[i]? = some (.own ds)) (hN : X.N[i]? = some x := by rfl) (hv : Vis X.env.scope x := by first | exact Or.inl rfl | exact Or.inr (Or.inl rfl) | exact Or.inr (Or.inr rfl)) (hd : (x == ("__debug__" : Str)) = false := by decide)
    (hcd : (x == ("__classdict__" : Str)) = false := by decide) : BR X (.Name x pos) env (.list ds) := by
  refine ⟨_, pe_var hN hv hd hcd, fun F0 H0 F H σ S Q q => ?_⟩
  obtain ⟨a, xs, e1, h0, hf, hh, hd⟩ := S.ok i _ hi
  exact ⟨_, e1, q _ F H (Gr.refl S.ex) (.lst (.inl (.inl hh)) (dpAll_mono S.ex hd))⟩
theorem be_int {i : Int} {j : Nat} : BE X (.Constant (.int i) j pos) env (.ok (.int i)) := ⟨_, pe_int, fun _ _ F H _ S _ q => q _ F H (Gr.refl S.ex) (.int i)⟩
theorem be_bl {i : Bool} {j : Nat} : BE X (.Constant (.bool i) j pos) env (.ok (.bool i)) := ⟨_, pe_bl, fun _ _ F H _ S _ q => q _ F H (Gr.refl S.ex) (.bl i)⟩
theorem be_non {j : Nat} : BE X (.Constant .none j pos) env (.ok .none) := ⟨_, pe_non, fun _ _ F H _ S _ q => q _ F H (Gr.refl S.ex) .non⟩
theorem be_str {i : Str} {j : Nat} : BE X (.Constant (.str i) j pos) env (.ok (.str i)) := ⟨_, pe_str, fun _ _ F H _ S _ q => q _ F H (Gr.refl S.ex) (.str i)⟩
/-- a module's constant that is an int -/
theorem be_glob {x : Str} {i : Int} {t : Tok} (hm : X.mg x = some (.int i t)) (hg : Gl X x := by rfl) (hd : (x == ("__debug__" : Str)) = false := by decide) : BE X (.Name x pos) env (.ok (.int i)) :=
  ⟨_, pe_glob (v := .int i) hg hm ⟨t, rfl⟩ hd, fun _ _ F H _ S _ q => q _ F H (Gr.refl S.ex) (.int i)⟩

/-! ### argument lists -/
theorem ba_nil : BA X [] env [] := ⟨_, pa_nil, fun _ _ F H _ S _ q => q [] F H (Gr.refl S.ex) .nil⟩
theorem ba_cons (h : BE X e env (.ok d)) (hr : BA X es env ds) (he : starEach (e :: es) X.env = (false, eval e X.env) :: starEach es X.env := by rfl) : BA X (e :: es) env (d :: ds) := by
  obtain ⟨t, h1, h2⟩ := h
  obtain ⟨u, g1, g2⟩ := hr
  refine ⟨_, pa_cons h1 g1 he, fun F0 H0 F H σ S Q q => ?_⟩
  refine h2 F0 H0 F H σ S _ fun v F1 H1 gr1 hd1 => ?_
  refine g2 F0 H0 F1 H1 σ (S.grow gr1) _ fun vs F2 H2 gr2 hd2 => ?_
  exact q _ F2 H2 (gr1.trans gr2) (.cons (dp_mono gr2.f hd1) hd2)
theorem bb_nil : BB X [] env [] := ⟨_, pa_nil, fun _ _ F H _ S _ q => q [] F H (Gr.refl S.ex) .nil⟩
theorem bb_cons (h : BR X e env d) (hr : BB X es env ds) (he : starEach (e :: es) X.env = (false, eval e X.env) :: starEach es X.env := by rfl) : BB X (e :: es) env (d :: ds) := by
  obtain ⟨t, h1, h2⟩ := h
  obtain ⟨u, g1, g2⟩ := hr
  refine ⟨_, pa_cons h1 g1 he, fun F0 H0 F H σ S Q q => ?_⟩
  refine h2 F0 H0 F H σ S _ fun v F1 H1 gr1 hd1 => ?_
  refine g2 F0 H0 F1 H1 σ (S.grow gr1) _ fun vs F2 H2 gr2 hd2 => ?_
  exact q _ F2 H2 (gr1.trans gr2) (.cons (dp_mono gr2.h hd1) hd2)
theorem BA.r (h : BA X es env ds) : BB X es env ds := by
  obtain ⟨t, h1, h2⟩ := h
  exact ⟨t, h1, fun F0 H0 F H σ S Q q => h2 F0 H0 F H σ S Q fun v F' H' g hd => q v F' H' g (dpAll_mono g.s hd)⟩

/-! ### displays -/
theorem gr_new {F H : Hp} {p : Addr} {o : HO} (s : Ex F H) (hp : H p = none) : Gr F H (upd F p o) (upd H p o) := by
  have hf : F p = none := s.free hp
  refine ⟨Ex.new hf, Ex.new hp, fun b u e => ?_, fun b u e0 e => ?_⟩
  · by_cases hb : b = p
    · subst hb
      rw [upd_same] at e ⊢
      exact e
    · rw [upd_ne hb] at e ⊢
      exact s b u e
  · by_cases hb : b = p
    · subst hb
      exact .inl hp
    · rw [upd_ne hb, e0] at e
      cases e
theorem gr_newH {F H : Hp} {p : Addr} {o : HO} (s : Ex F H) (hp : H p = none) : Gr F H F (upd H p o) :=
  ⟨Same.refl _, Ex.new hp, s.trans (Ex.new hp), fun b u e0 e => by rw [e0] at e; cases e⟩
theorem be_tup {k : Nat} (h : BA X es env ds) (hl : ds.length ≤ sizeLine := by first | decide | (simp only [List.length_cons, List.length_nil]; decide)) : BE X (.Tuple es k pos) env (.ok (.tuple ds)) := by
  obtain ⟨t, h1, h2⟩ := h
  refine ⟨_, pe_tup h1, fun F0 H0 F H σ S Q q => ?_⟩
  refine h2 F0 H0 F H σ S _ fun vs F1 H1 g1 hd => ⟨by rw [hd.len]; exact hl, fun p hp => ?_⟩
  exact q _ _ _ (g1.trans (gr_new g1.s hp)) (.tup upd_same (dpAll_mono (Ex.new (g1.s.free hp)) hd))
theorem be_lst (h : BA X es env ds) (hl : ds.length ≤ sizeLine := by first | decide | (simp only [List.length_cons, List.length_nil]; decide)) : BE X (.List es pos) env (.fr ds) := by
  obtain ⟨t, h1, h2⟩ := h
  refine ⟨_, pe_lst h1, fun F0 H0 F H σ S Q q => ?_⟩
  refine h2 F0 H0 F H σ S _ fun vs F1 H1 g1 hd => ⟨by rw [hd.len]; exact hl, fun p hp => ?_⟩
  exact q p vs F1 _ (g1.trans (gr_newH g1.s hp)) (g1.h.free hp) (g1.s.free hp) upd_same hd

/-- (a, b, [..]) -/
theorem be_tupF {k : Nat} {e1 e2 e3 : Expr} (h1 : BE X e1 env (.ok d1)) (h2 : BE X e2 env (.ok d2)) (h3 : BE X e3 env (.fr ds)) (he1 : starEach [e1, e2, e3] X.env = (false, eval e1 X.env) :: starEach [e2, e3] X.env := by rfl) (he2 : starEach [e2, e3] X.env = (false, eval e2 X.env) :: starEach [e3] X.env := by rfl) (he3 : starEach [e3] X.env = (false, eval e3 X.env) :: starEach [] X.env := by rfl) :
    BE X (.Tuple [e1, e2, e3] k pos) env (.tf [d1, d2] ds) := by
  obtain ⟨t1, p1, q1⟩ := h1
  obtain ⟨t2, p2, q2⟩ := h2
  obtain ⟨t3, p3, q3⟩ := h3
  refine ⟨_, pe_tup (pa_cons p1 (pa_cons p2 (pa_cons p3 pa_nil he3) he2) he1), fun F0 H0 F H σ S Q q => ?_⟩
  refine q1 F0 H0 F H σ S _ fun v1 F1 H1 g1 d1' => ?_
  refine q2 F0 H0 F1 H1 σ (S.grow g1) _ fun v2 F2 H2 g2 d2' => ?_
  refine q3 F0 H0 F2 H2 σ ((S.grow g1).grow g2) _ fun l ys F3 H3 g3 hl fl hh hd => ?_
  refine ⟨by show 3 ≤ sizeLine; decide, fun a ha => ?_⟩
  have g := (g1.trans g2).trans g3
  have hne : a ≠ l := fun e => by
    rw [e] at ha
    rw [ha] at hh
    cases hh
  refine q a l [v1, v2] ys F3 _ (g.trans (gr_newH g.s ha)) (g.h.free ha) ((g1.trans g2).h.free hl) (g.s.free ha) fl hne upd_same ?_ (.cons (dp_mono (g2.f.trans g3.f) d1') (.cons (dp_mono g3.f d2') .nil)) hd
  rw [upd_ne (Ne.symm hne)]
  exact hh

/-! ### operators -/
/-- by values that are frozen -/
def R2D (K : PySem.W.Frag) (r : R2) (d1 d2 : D) (o : Vr) : Prop := ∀ (F H : Hp) (x y : V), Ex F H → Dp K F x d1 → Dp K F y d2 → ∀ Q : VK, PostV K F H Q o → r x y H Q
def scV : PyData → Option V
  | .none => some .non
  | .bool b => some (.bl b)
  | .int i => some (.int i)
  | .str x => some (.str x)
  | _ => none
theorem dp_scV {K : PySem.W.Frag} {H : Hp} {d : D} {v : V} (h : scV d = some v) : Dp K H v d := by
  cases d with
  | none => cases h; exact .non
  | bool b => cases h; exact .bl b
  | int i => cases h; exact .int i
  | str x => cases h; exact .str x
  | list xs => cases h
  | tuple xs => cases h
  | dict xs => cases h
/-- by values that are read; the answer a plain value, the heap stays -/
def R2S (K : PySem.W.Frag) (r : R2) (d1 d2 d : D) : Prop := ∃ v, scV d = some v ∧ ∀ (H : Hp) (x y : V), Dp K H x d1 → Dp K H y d2 → ∀ Q : VK, Q v H → r x y H Q
theorem R2S.frz {K : PySem.W.Frag} {r : R2} (h : R2S K r d1 d2 d) : R2D K r d1 d2 (.ok d) := by
  obtain ⟨v, hv, h⟩ := h
  exact fun F H x y s hx hy Q q => h H x y (dp_mono s hx) (dp_mono s hy) Q (q v F H (Gr.refl s) (dp_scV hv))
theorem be_bin {op : Operator} {r : R2} (ho : OpR X (binaryOp op) r) (ha : BE X a env (.ok d1)) (hb : BE X b env (.ok d2)) (hr : R2D X.K r d1 d2 o) : BE X (.BinOp a op b pos) env o := by
  obtain ⟨t, h1, h2⟩ := ha
  obtain ⟨u, g1, g2⟩ := hb
  refine ⟨_, pe_op ho h1 g1, fun F0 H0 F H σ S Q q => ?_⟩
  refine h2 F0 H0 F H σ S _ fun x F1 H1 gr1 hd1 => ?_
  refine g2 F0 H0 F1 H1 σ (S.grow gr1) _ fun y F2 H2 gr2 hd2 => ?_
  exact hr F2 H2 x y gr2.s (dp_mono gr2.f hd1) hd2 Q (q.back (gr1.trans gr2))
theorem be_un {op : UnaryOp} {r : V → Hp → VK → Prop} {i : Int} {v : V} (ho : UnR X (unaryOp op) r) (ha : BE X a env (.ok d1)) (hv : scV d = some v) (hr : ∀ (H : Hp) (x : V) (Q : VK), Dp X.K H x d1 → Q v H → r x H Q) : BE X (.UnaryOp op a pos) env (.ok d) := by
  obtain ⟨t, h1, h2⟩ := ha
  refine ⟨_, pe_un ho h1, fun F0 H0 F H σ S Q q => ?_⟩
  refine h2 F0 H0 F H σ S _ fun x F1 H1 gr1 hd1 => ?_
  exact hr H1 x Q (dp_mono gr1.s hd1) (q v F1 H1 gr1 (dp_scV hv))
theorem be_neg {i : Int} (ha : BE X a env (.ok (.int i))) : BE X (.UnaryOp .USub a pos) env (.ok (.int (-i))) :=
  be_un (i := i) (v := .int (-i)) un_neg ha rfl fun H x Q h q => ⟨i, dp_int h, q⟩
/-- a comparison, its operands read -/
theorem be_cmp {op : CmpOp} {r : R2} (ho : OpR X (compareOp op) r) (ha : BR X a env d1) (hb : BR X b env d2) (hr : R2S X.K r d1 d2 d) (hm : behindInMarks op b = false) : BE X (.Compare a [op] [b] pos) env (.ok d) := by
  obtain ⟨t, h1, h2⟩ := ha
  obtain ⟨u, g1, g2⟩ := hb
  obtain ⟨v, hv, hr⟩ := hr
  refine ⟨_, pe_cmpR ho h1 g1 hm, fun F0 H0 F H σ S Q q => ?_⟩
  refine h2 F0 H0 F H σ S _ fun x F1 H1 gr1 hd1 => ?_
  refine g2 F0 H0 F1 H1 σ (S.grow gr1) _ fun y F2 H2 gr2 hd2 => ?_
  exact hr H2 x y (dp_mono gr2.h hd1) hd2 Q (q v F2 H2 (gr1.trans gr2) (dp_scV hv))
theorem bt_cmp {op : CmpOp} {r : R2} (ho : OpR X (compareOp op) r) (ha : BR X a env d1) (hb : BR X b env d2) (hr : R2S X.K r d1 d2 (.bool b1)) (hm : behindInMarks op b = false) : BT X (.Compare a [op] [b] pos) env b1 := by
  obtain ⟨t, h1, h2⟩ := ha
  obtain ⟨u, g1, g2⟩ := hb
  obtain ⟨v, hv, hr⟩ := hr
  cases hv
  refine ⟨_, pt_cmpR ho h1 g1 hm, fun F0 H0 F H σ S Q q => ?_⟩
  refine h2 F0 H0 F H σ S _ fun x F1 H1 gr1 hd1 => ?_
  refine g2 F0 H0 F1 H1 σ (S.grow gr1) _ fun y F2 H2 gr2 hd2 => ?_
  exact hr H2 x y (dp_mono gr2.h hd1) hd2 _ ⟨b1, rfl, q F2 H2 (gr1.trans gr2)⟩
/-- a < b < c -/
theorem be_chain {c : Expr} {d3 : D} {op op' : CmpOp} {r r' : R2} (ho : OpR X (compareOp op) r) (ho' : OpR X (compareOp op') r') (ha : BR X a env d1) (hb : BR X b env d2) (hc : BR X c env d3) (hr : R2S X.K r d1 d2 (.bool b1)) (hr' : R2S X.K r' d2 d3 (.bool b2)) (hm : lastMarks [op, op'] [b, c] = false := by with_unfolding_all rfl) :
    BE X (.Compare a [op, op'] [b, c] pos) env (.ok (.bool (b1 && b2))) := by
  obtain ⟨t, h1, h2⟩ := ha
  obtain ⟨u, g1, g2⟩ := hb
  obtain ⟨w, k1, k2⟩ := hc
  obtain ⟨v, hv, hr⟩ := hr
  obtain ⟨v', hv', hr'⟩ := hr'
  cases hv
  cases hv'
  refine ⟨_, pe_chain ho ho' h1 g1 k1 hm, fun F0 H0 F H σ S Q q => ?_⟩
  refine h2 F0 H0 F H σ S _ fun x F1 H1 gr1 hd1 => ?_
  refine g2 F0 H0 F1 H1 σ (S.grow gr1) _ fun y F2 H2 gr2 hd2 => ?_
  refine hr H2 x y (dp_mono gr2.h hd1) hd2 _ ⟨b1, rfl, ?_⟩
  cases b1 with
  | true =>
    refine iteT ?_
    refine k2 F0 H0 F2 H2 σ (S.grow (gr1.trans gr2)) _ fun z F3 H3 gr3 hd3 => ?_
    exact hr' H3 y z (dp_mono gr3.h hd2) hd3 _ (q _ F3 H3 ((gr1.trans gr2).trans gr3) (.bl _))
  | false => exact iteF (q _ F2 H2 (gr1.trans gr2) (.bl _))
theorem bt_chain {c : Expr} {d3 : D} {op op' : CmpOp} {r r' : R2} (ho : OpR X (compareOp op) r) (ho' : OpR X (compareOp op') r') (ha : BR X a env d1) (hb : BR X b env d2) (hc : BR X c env d3) (hr : R2S X.K r d1 d2 (.bool b1)) (hr' : R2S X.K r' d2 d3 (.bool b2)) (hm : lastMarks [op, op'] [b, c] = false := by with_unfolding_all rfl) :
    BT X (.Compare a [op, op'] [b, c] pos) env (b1 && b2) := by
  obtain ⟨t, h1, h2⟩ := ha
  obtain ⟨u, g1, g2⟩ := hb
  obtain ⟨w, k1, k2⟩ := hc
  obtain ⟨v, hv, hr⟩ := hr
  obtain ⟨v', hv', hr'⟩ := hr'
  cases hv
  cases hv'
  refine ⟨_, pt_chain ho ho' h1 g1 k1 hm, fun F0 H0 F H σ S Q q => ?_⟩
  refine h2 F0 H0 F H σ S _ fun x F1 H1 gr1 hd1 => ?_
  refine g2 F0 H0 F1 H1 σ (S.grow gr1) _ fun y F2 H2 gr2 hd2 => ?_
  refine hr H2 x y (dp_mono gr2.h hd1) hd2 _ ⟨b1, rfl, ?_⟩
  cases b1 with
  | true =>
    refine iteT ?_
    refine k2 F0 H0 F2 H2 σ (S.grow (gr1.trans gr2)) _ fun z F3 H3 gr3 hd3 => ?_
    exact hr' H3 y z (dp_mono gr3.h hd2) hd3 _ ⟨b2, rfl, q F3 H3 ((gr1.trans gr2).trans gr3)⟩
  | false => exact iteF ⟨false, rfl, q F2 H2 (gr1.trans gr2)⟩

/-! ### tests -/
theorem bt_val (h : BE X e env (.ok (.bool b1))) (he : ∀ whole, isTrue e X.env whole = (do let v ← whole; standAt e.pos; holding [v] (truthy v)) := by intro _; rfl) : BT X e env b1 := by
  obtain ⟨t, h1, h2⟩ := h
  refine ⟨_, pt_val h1 he, fun F0 H0 F H σ S Q q => ?_⟩
  exact h2 F0 H0 F H σ S _ fun v F' H' g hd => ⟨b1, dp_bl hd, q F' H' g⟩
theorem bt_not (h : BT X a env b1) : BT X (.UnaryOp .Not a pos) env (!b1) := by
  obtain ⟨t, h1, h2⟩ := h
  exact ⟨_, pt_not h1, fun F0 H0 F H σ S Q q => h2 F0 H0 F H σ S _ fun F' H' g => q F' H' g⟩
theorem bw_and1 (h : BT X a env b1) : BW X (.BoolOp .And [a] pos) env b1 := by
  obtain ⟨t, h1, h2⟩ := h
  exact ⟨_, pw_and1 h1, h2⟩
theorem bw_or1 (h : BT X a env b1) : BW X (.BoolOp .Or [a] pos) env b1 := by
  obtain ⟨t, h1, h2⟩ := h
  exact ⟨_, pw_or1 h1, h2⟩
theorem bw_and {rest : List Expr} (ha : BT X a env b1) (hb : b1 = true → BW X (.BoolOp .And (b :: rest) pos) env b2) : BW X (.BoolOp .And (a :: b :: rest) pos) env (b1 && b2) := by
  obtain ⟨t, h1, h2⟩ := ha
  cases b1 with
  | true =>
    obtain ⟨u, g1, g2⟩ := hb rfl
    refine ⟨_, pw_and h1 g1, fun F0 H0 F H σ S Q q => ?_⟩
    refine h2 F0 H0 F H σ S _ fun F1 H1 gr1 => iteT ?_
    exact g2 F0 H0 F1 H1 σ (S.grow gr1) Q fun F2 H2 gr2 => q F2 H2 (gr1.trans gr2)
  | false =>
    refine ⟨tAnd t (fun _ _ _ => False), pw_and h1 ⟨fun _ _ _ _ _ _ _ z => z.elim⟩, fun F0 H0 F H σ S Q q => ?_⟩
    exact h2 F0 H0 F H σ S _ fun F1 H1 gr1 => iteF (q F1 H1 gr1)
theorem bw_or {rest : List Expr} (ha : BT X a env b1) (hb : b1 = false → BW X (.BoolOp .Or (b :: rest) pos) env b2) : BW X (.BoolOp .Or (a :: b :: rest) pos) env (b1 || b2) := by
  obtain ⟨t, h1, h2⟩ := ha
  cases b1 with
  | false =>
    obtain ⟨u, g1, g2⟩ := hb rfl
    refine ⟨_, pw_or h1 g1, fun F0 H0 F H σ S Q q => ?_⟩
    refine h2 F0 H0 F H σ S _ fun F1 H1 gr1 => iteF ?_
    exact g2 F0 H0 F1 H1 σ (S.grow gr1) Q fun F2 H2 gr2 => q F2 H2 (gr1.trans gr2)
  | true =>
    refine ⟨tOr t (fun _ _ _ => False), pw_or h1 ⟨fun _ _ _ _ _ _ _ z => z.elim⟩, fun F0 H0 F H σ S Q q => ?_⟩
    exact h2 F0 H0 F H σ S _ fun F1 H1 gr1 => iteT (q F1 H1 gr1)
theorem BW.t (h : BW X e env b1) : BT X e env b1 := by
  obtain ⟨t, h1, h2⟩ := h
  exact ⟨t, h1.pt, h2⟩
/-- and, or, not as values -/
theorem be_one {op : BoolOp} (h : BE X a env o) : BE X (.BoolOp op [a] pos) env o := by
  obtain ⟨t, h1, h2⟩ := h
  exact ⟨t, pe_one h1, h2⟩
theorem be_and {rest : List Expr} (ha : BE X a env (.ok (.bool b1))) (hb : b1 = true → BE X (.BoolOp .And (b :: rest) pos) env (.ok (.bool b2))) : BE X (.BoolOp .And (a :: b :: rest) pos) env (.ok (.bool (b1 && b2))) := by
  obtain ⟨t, h1, h2⟩ := ha
  cases b1 with
  | true =>
    obtain ⟨u, g1, g2⟩ := hb rfl
    refine ⟨_, pe_and h1 g1, fun F0 H0 F H σ S Q q => ?_⟩
    refine h2 F0 H0 F H σ S _ fun v F1 H1 gr1 hd => ⟨true, dp_bl hd, iteT ?_⟩
    exact g2 F0 H0 F1 H1 σ (S.grow gr1) Q (PostV.back (o := .ok _) gr1 q)
  | false =>
    refine ⟨tAndV t (fun _ _ _ => False), pe_and h1 ⟨fun _ _ _ _ _ _ z => z.elim⟩, fun F0 H0 F H σ S Q q => ?_⟩
    exact h2 F0 H0 F H σ S _ fun v F1 H1 gr1 hd => ⟨false, dp_bl hd, iteF (q _ F1 H1 gr1 (.bl _))⟩
theorem be_or {rest : List Expr} (ha : BE X a env (.ok (.bool b1))) (hb : b1 = false → BE X (.BoolOp .Or (b :: rest) pos) env (.ok (.bool b2))) : BE X (.BoolOp .Or (a :: b :: rest) pos) env (.ok (.bool (b1 || b2))) := by
  obtain ⟨t, h1, h2⟩ := ha
  cases b1 with
  | false =>
    obtain ⟨u, g1, g2⟩ := hb rfl
    refine ⟨_, pe_or h1 g1, fun F0 H0 F H σ S Q q => ?_⟩
    refine h2 F0 H0 F H σ S _ fun v F1 H1 gr1 hd => ⟨false, dp_bl hd, iteF ?_⟩
    exact g2 F0 H0 F1 H1 σ (S.grow gr1) Q (PostV.back (o := .ok _) gr1 q)
  | true =>
    refine ⟨tOrV t (fun _ _ _ => False), pe_or h1 ⟨fun _ _ _ _ _ _ z => z.elim⟩, fun F0 H0 F H σ S Q q => ?_⟩
    exact h2 F0 H0 F H σ S _ fun v F1 H1 gr1 hd => ⟨true, dp_bl hd, iteT (q _ F1 H1 gr1 (.bl _))⟩
theorem be_not (ha : BE X a env (.ok (.bool b1))) : BE X (.UnaryOp .Not a pos) env (.ok (.bool (!b1))) := by
  obtain ⟨t, h1, h2⟩ := ha
  refine ⟨_, pe_not h1, fun F0 H0 F H σ S Q q => ?_⟩
  exact h2 F0 H0 F H σ S _ fun v F1 H1 gr1 hd => ⟨b1, dp_bl hd, q _ F1 H1 gr1 (.bl _)⟩

/-! ### a subscript -/
theorem atI_tr {K : PySem.W.Frag} {H : Hp} {xs : List V} {k : Int} (hd : DpAll K H xs ds) (h : atI ds k = some d) : ∃ v, atI xs k = some v ∧ Dp K H v d := by
  unfold atI at h ⊢
  rw [hd.len]
  cases e : ixN ds.length k with
  | none => rw [e] at h; cases h
  | some j =>
    rw [e] at h
    exact hd.get h
theorem be_ix {k : Int} (ha : BE X a env (.ok (.list ds))) (hb : BE X b env (.ok (.int k))) (h : atI ds k = some d) (hs : PlainIx b := by exact fun _ _ => rfl) : BE X (.Subscript a b pos) env (.ok d) := by
  obtain ⟨t, h1, h2⟩ := ha
  obtain ⟨u, g1, g2⟩ := hb
  refine ⟨_, pe_ix ix_seq h1 g1 hs, fun F0 H0 F H σ S Q q => ?_⟩
  refine h2 F0 H0 F H σ S _ fun x F1 H1 gr1 hd1 => ?_
  refine g2 F0 H0 F1 H1 σ (S.grow gr1) _ fun y F2 H2 gr2 hd2 => ?_
  obtain ⟨p, xs, rfl, hl, hx⟩ := dp_lst hd1
  obtain ⟨v, hv, hd⟩ := atI_tr hx h
  exact .inl ⟨p, xs, k, v, rfl, dp_int hd2, (gr2.f.trans gr2.s).seq hl, hv, q v F2 H2 (gr1.trans gr2) (dp_mono gr2.f hd)⟩
theorem be_ixT {k : Int} (ha : BE X a env (.ok (.tuple ds))) (hb : BE X b env (.ok (.int k))) (h : atI ds k = some d) (hs : PlainIx b := by exact fun _ _ => rfl) : BE X (.Subscript a b pos) env (.ok d) := by
  obtain ⟨t, h1, h2⟩ := ha
  obtain ⟨u, g1, g2⟩ := hb
  refine ⟨_, pe_ix ix_seq h1 g1 hs, fun F0 H0 F H σ S Q q => ?_⟩
  refine h2 F0 H0 F H σ S _ fun x F1 H1 gr1 hd1 => ?_
  refine g2 F0 H0 F1 H1 σ (S.grow gr1) _ fun y F2 H2 gr2 hd2 => ?_
  obtain ⟨p, xs, rfl, hl, hx⟩ := dp_tup hd1
  obtain ⟨v, hv, hd⟩ := atI_tr hx h
  exact .inr (.inl ⟨p, xs, k, v, rfl, dp_int hd2, SqT.of ((gr2.f.trans gr2.s) _ _ hl), hv, q v F2 H2 (gr1.trans gr2) (dp_mono gr2.f hd)⟩)
/-- an item of an owned list -/
theorem be_ixO (i : Nat) {x : Str} {p2 : Pos} {k : Int} (hi : env[i]? = some (.own ds)) (hb : BE X b env (.ok (.int k))) (h : atI ds k = some d) (hs : PlainIx b := by exact fun _ _ => rfl) (hN : X.N[i]? = some x := by rfl)
    (hv : Vis X.env.scope x := by first | exact Or.inl rfl | exact Or.inr (Or.inl rfl) | exact Or.inr (Or.inr rfl)) (hd : (x == ("__debug__" : Str)) = false := by decide) (hcd : (x == ("__classdict__" : Str)) = false := by decide) : BE X (.Subscript (.Name x p2) b pos) env (.ok d) := by
  obtain ⟨u, g1, g2⟩ := hb
  refine ⟨_, pe_ix ix_seq (pe_var hN hv hd hcd) g1 hs, fun F0 H0 F H σ S Q q => ?_⟩
  obtain ⟨a, xs, e1, h0, hf, hh, hx⟩ := S.ok i _ hi
  refine ⟨_, e1, ?_⟩
  refine g2 F0 H0 F H σ S _ fun y F2 H2 gr2 hd2 => ?_
  obtain ⟨v, hv, hd⟩ := atI_tr hx h
  exact .inl ⟨a, xs, k, v, rfl, dp_int hd2, .inl (.inl (gr2.h _ _ hh)), hv, q v F2 H2 gr2 (dp_mono gr2.f hd)⟩

/-! ### slices -/
def cutA {α : Type} (xs : List α) (lo hi : Option Int) : List α := (xs.drop (HT.sIx xs.length 0 lo)).take (HT.sIx xs.length xs.length hi - HT.sIx xs.length 0 lo)
def BO (X : Cx) (e : Option Expr) (env : List Sl) (k : Option Int) : Prop :=
  ∃ t : TO, PO X e t ∧ ∀ (F0 H0 F H : Hp) (σ : L2.St), Sd X.K F0 H0 F H σ env → ∀ Q : Option Int → Hp → Prop, (∀ F' H', Gr F H F' H' → Q k H') → t σ H Q
theorem bo_none : BO X none env none := ⟨_, po_none, fun _ _ F H _ S _ q => q F H (Gr.refl S.ex)⟩
theorem bo_some {k : Int} (h : BE X e env (.ok (.int k))) : BO X (some e) env (some k) := by
  obtain ⟨t, h1, h2⟩ := h
  exact ⟨_, po_some h1, fun F0 H0 F H σ S Q q => h2 F0 H0 F H σ S _ fun v F' H' g hd => ⟨k, dp_int hd, q F' H' g⟩⟩
theorem cut_tr {K : PySem.W.Frag} {H : Hp} {xs : List V} {lo hi : Option Int} (hd : DpAll K H xs ds) : DpAll K H (cutV xs lo hi) (cutA ds lo hi) := by
  unfold cutV cutA
  rw [hd.len]
  exact (hd.drop _).take _
theorem be_slice {lo hi : Option Expr} {k l : Option Int} {p2 : Pos} (ha : BE X a env (.ok (.list ds))) (hl : BO X lo env k) (hh : BO X hi env l) : BE X (.Subscript a (.Slice lo hi none p2) pos) env (.fr (cutA ds k l)) := by
  obtain ⟨t, h1, h2⟩ := ha
  obtain ⟨u, g1, g2⟩ := hl
  obtain ⟨w, k1, k2⟩ := hh
  refine ⟨_, pe_slice sl_list h1 g1 k1, fun F0 H0 F H σ S Q q => ?_⟩
  refine h2 F0 H0 F H σ S _ fun x F1 H1 gr1 hd1 => ?_
  refine g2 F0 H0 F1 H1 σ (S.grow gr1) _ fun F2 H2 gr2 => ?_
  refine k2 F0 H0 F2 H2 σ (S.grow (gr1.trans gr2)) _ fun F3 H3 gr3 => ?_
  obtain ⟨p, xs, rfl, hs, hx⟩ := dp_lst hd1
  have g := (gr1.trans gr2).trans gr3
  refine ⟨p, xs, rfl, ((gr2.trans gr3).f.trans g.s).seq hs, fun l hl => ?_⟩
  exact q l _ F3 _ (g.trans (gr_newH g.s hl)) (g.h.free hl) (g.s.free hl) upd_same (cut_tr (dpAll_mono (gr2.trans gr3).f hx))
/-- a slice of an owned list -/
theorem be_sliceO (i : Nat) {x : Str} {p3 : Pos} {lo hi : Option Expr} {k l : Option Int} {p2 : Pos} (hie : env[i]? = some (.own ds)) (hl : BO X lo env k) (hh : BO X hi env l) (hN : X.N[i]? = some x := by rfl)
    (hv : Vis X.env.scope x := by first | exact Or.inl rfl | exact Or.inr (Or.inl rfl) | exact Or.inr (Or.inr rfl)) (hd : (x == ("__debug__" : Str)) = false := by decide) (hcd : (x == ("__classdict__" : Str)) = false := by decide) : BE X (.Subscript (.Name x p3) (.Slice lo hi none p2) pos) env (.fr (cutA ds k l)) := by
  obtain ⟨u, g1, g2⟩ := hl
  obtain ⟨w, k1, k2⟩ := hh
  refine ⟨_, pe_slice sl_list (pe_var hN hv hd hcd) g1 k1, fun F0 H0 F H σ S Q q => ?_⟩
  obtain ⟨a, xs, e1, h0, hf, hh, hx⟩ := S.ok i _ hie
  refine ⟨_, e1, ?_⟩
  refine g2 F0 H0 F H σ S _ fun F2 H2 gr2 => ?_
  refine k2 F0 H0 F2 H2 σ (S.grow gr2) _ fun F3 H3 gr3 => ?_
  have g := gr2.trans gr3
  refine ⟨a, xs, rfl, .inl (.inl (g.h _ _ hh)), fun l hl => ?_⟩
  exact q l _ F3 _ (g.trans (gr_newH g.s hl)) (g.h.free hl) (g.s.free hl) upd_same (cut_tr (dpAll_mono g.f hx))
end
end PD
/-! PD: operators, built-ins -/
namespace PD
open PySem L2 PySem.Spec PyProof.Rows

/-! ### rules of my own over the library -/
section
variable {X : Cx}
/-- // by any divisor but 0 below 2 ^ 9000 -/
def CDivA (_ j : Int) : Prop := j ≠ 0 ∧ j.natAbs.log2 < 9000
theorem op_fdivA : OpR X (binaryOp .FloorDiv) (rI CDivA fun i j => .int (i.fdiv j)) := opI fun i j _ _ _ _ _ hc q => floordiv_int hc.1 q (.inl (PyProof.noPylong_of_log2 hc.2))
/-- list + list, however they are read -/
def rCatS (K : PySem.W.Frag) : R2 := fun x y H Q => ∃ l b xs zs, x = .ref l ∧ y = .ref b ∧ SqL K H l xs ∧ SqL K H b zs ∧ xs.length + zs.length ≤ sizeLine ∧ ∀ p, H p = none → Q (.ref p) (upd H p (.lst (xs ++ zs)))
theorem op_catS : OpR X (binaryOp .Add) (rCatS X.K) := by
  intro pins s σ H x y v u Q I rx ry h
  obtain ⟨l, b, xs, zs, rfl, rfl, hH, hB, hz, q⟩ := h
  cases rx
  cases ry
  obtain ⟨its, r, pl, hl⟩ := I.list hH
  obtain ⟨its2, r2, pl2, hl2⟩ := I.list hB
  have e := r.length
  have e2 := r2.length
  obtain ⟨⟨cls, dd, data, sl⟩, ho, hc, n, hd⟩ := pl.isList
  obtain ⟨⟨cls2, dd2, data2, sl2⟩, ho2, hc2, n2, hd2⟩ := pl2.isList
  simp only at hc hd hc2 hd2
  subst hc hd hc2 hd2
  have ea : its.toArray ++ its2.toArray = (its ++ its2).toArray := by simp
  refine concat_meets ⟨_, ho, rfl⟩ ⟨_, ho2, rfl⟩ noFill_list_add seq_list_add PySem.F.slot_list_add PySem.F.entry_list_add (PySem.F.args_list_add_2 _ _) (list_addW l b its.toArray its2.toArray n n2 dd dd2 sl sl2 (by rw [List.size_toArray, List.size_toArray]; omega)) ⟨ho, ho2, ?_⟩
  rw [ea]
  exact ⟨.ref _, _, I.lnew (t' := s.toks) (r.append r2) (by rw [List.length_append]; omega), rfl, q _ I.fresh⟩
end

section
variable {X : Cx} {K : PySem.W.Frag} {env : List Sl} {e a b : Expr} {es : List Expr} {d d1 d2 : D} {ds es1 es2 : List D} {o : Vr} {pos : Pos} {b1 b2 : Bool} {i j : Int}

/-! ### ints -/
theorem s_I0 {g : Int → Int → V} (h : scV d = some (g i j)) : R2S K (rI0 g) (.int i) (.int j) d := ⟨_, h, fun H x y hx hy Q q => ⟨i, j, dp_int hx, dp_int hy, q⟩⟩
theorem s_I {C : Int → Int → Prop} {g : Int → Int → V} (hc : C i j) (h : scV d = some (g i j)) : R2S K (rI C g) (.int i) (.int j) d := ⟨_, h, fun H x y hx hy Q q => ⟨i, j, dp_int hx, dp_int hy, hc, q⟩⟩
theorem be_add (ha : BE X a env (.ok (.int i))) (hb : BE X b env (.ok (.int j))) : BE X (.BinOp a .Add b pos) env (.ok (.int (i + j))) := be_bin op_add ha hb (R2S.frz (s_I0 rfl))
theorem be_sub (ha : BE X a env (.ok (.int i))) (hb : BE X b env (.ok (.int j))) : BE X (.BinOp a .Sub b pos) env (.ok (.int (i - j))) := be_bin op_sub ha hb (R2S.frz (s_I0 rfl))
theorem be_mul (ha : BE X a env (.ok (.int i))) (hb : BE X b env (.ok (.int j))) (hc : CMulW i j) : BE X (.BinOp a .Mult b pos) env (.ok (.int (i * j))) := be_bin op_mulW ha hb (R2S.frz (s_I hc rfl))
/-- one factor small -/
theorem be_mulS (ha : BE X a env (.ok (.int i))) (hb : BE X b env (.ok (.int j))) (hc : CMul i j) : BE X (.BinOp a .Mult b pos) env (.ok (.int (i * j))) := be_bin op_mul ha hb (R2S.frz (s_I hc rfl))
theorem be_pow (ha : BE X a env (.ok (.int i))) (hb : BE X b env (.ok (.int j))) (hc : CPow i j) : BE X (.BinOp a .Pow b pos) env (.ok (.int (i ^ j.toNat))) := be_bin op_pow ha hb (R2S.frz (s_I hc rfl))
theorem be_mod (ha : BE X a env (.ok (.int i))) (hb : BE X b env (.ok (.int j))) (hc : 0 < j) : BE X (.BinOp a .Mod b pos) env (.ok (.int (i % j))) := be_bin op_mod ha hb (R2S.frz (s_I hc rfl))
/-- by a positive number below 2 ^ 30 -/
theorem be_div (ha : BE X a env (.ok (.int i))) (hb : BE X b env (.ok (.int j))) (hc : 0 < j ∧ j < 1073741824) : BE X (.BinOp a .FloorDiv b pos) env (.ok (.int (i / j))) := be_bin op_fdiv ha hb (R2S.frz (s_I hc rfl))
theorem be_divW (ha : BE X a env (.ok (.int i))) (hb : BE X b env (.ok (.int j))) (hc : CDivW i j) : BE X (.BinOp a .FloorDiv b pos) env (.ok (.int (i / j))) := be_bin op_fdivW ha hb (R2S.frz (s_I hc rfl))
theorem be_fdiv (ha : BE X a env (.ok (.int i))) (hb : BE X b env (.ok (.int j))) (hc : CDivA i j) : BE X (.BinOp a .FloorDiv b pos) env (.ok (.int (i.fdiv j))) := be_bin op_fdivA ha hb (R2S.frz (s_I hc rfl))
theorem be_addStr {x y : Str} (ha : BE X a env (.ok (.str x))) (hb : BE X b env (.ok (.str y))) (hl : x.length + y.length ≤ sizeLine) : BE X (.BinOp a .Add b pos) env (.ok (.str (x ++ y))) :=
  be_bin op_add_str ha hb fun F H u v s hu hv Q q => ⟨x, y, dp_str hu, dp_str hv, hl, q _ F H (Gr.refl s) (.str _)⟩
theorem be_cat (ha : BE X a env (.ok (.list es1))) (hb : BE X b env (.ok (.list es2))) (hl : es1.length + es2.length ≤ sizeLine) : BE X (.BinOp a .Add b pos) env (.fr (es1 ++ es2)) :=
  be_bin op_catS ha hb fun F H u v s hu hv Q q => by
    obtain ⟨p, xs, rfl, h1, k1⟩ := dp_lst hu
    obtain ⟨p2, ys, rfl, h2, k2⟩ := dp_lst hv
    exact ⟨p, p2, xs, ys, rfl, rfl, s.seq h1, s.seq h2, by rw [k1.len, k2.len]; exact hl, fun l hl => q l _ F _ (gr_newH s hl) hl (s.free hl) upd_same (k1.append k2)⟩
/-- an owned list + a list -/
theorem be_catO (n : Nat) {x : Str} {p2 : Pos} (hi : env[n]? = some (.own es1)) (hb : BE X b env (.ok (.list es2))) (hl : es1.length + es2.length ≤ sizeLine) (hN : X.N[n]? = some x := by rfl)
    (hv : Vis X.env.scope x := by first | exact Or.inl rfl | exact Or.inr (Or.inl rfl) | exact Or.inr (Or.inr rfl)) (hd : (x == ("__debug__" : Str)) = false := by decide) (hcd : (x == ("__classdict__" : Str)) = false := by decide) : BE X (.BinOp (.Name x p2) .Add b pos) env (.fr (es1 ++ es2)) := by
  obtain ⟨u, g1, g2⟩ := hb
  refine ⟨_, pe_op op_catS (pe_var hN hv hd hcd) g1, fun F0 H0 F H σ S Q q => ?_⟩
  obtain ⟨a, xs, e1, h0, hf, hh, hx⟩ := S.ok n _ hi
  refine ⟨_, e1, ?_⟩
  refine g2 F0 H0 F H σ S _ fun y F2 H2 gr2 hd2 => ?_
  obtain ⟨p, ys, rfl, h2, k2⟩ := dp_lst hd2
  refine ⟨a, p, xs, ys, rfl, rfl, .inl (.inl (gr2.h _ _ hh)), gr2.s.seq h2, by rw [hx.len, k2.len]; exact hl, fun l hl => ?_⟩
  exact q l _ F2 _ (gr2.trans (gr_newH gr2.s hl)) (gr2.h.free hl) (gr2.s.free hl) upd_same ((dpAll_mono gr2.f hx).append k2)
/-- a list + an owned list -/
theorem be_catO2 (n : Nat) {x : Str} {p2 : Pos} (ha : BE X a env (.ok (.list es1))) (hi : env[n]? = some (.own es2)) (hl : es1.length + es2.length ≤ sizeLine) (hN : X.N[n]? = some x := by rfl)
    (hv : Vis X.env.scope x := by first | exact Or.inl rfl | exact Or.inr (Or.inl rfl) | exact Or.inr (Or.inr rfl)) (hd : (x == ("__debug__" : Str)) = false := by decide) (hcd : (x == ("__classdict__" : Str)) = false := by decide) : BE X (.BinOp a .Add (.Name x p2) pos) env (.fr (es1 ++ es2)) := by
  obtain ⟨u, g1, g2⟩ := ha
  refine ⟨_, pe_op op_catS g1 (pe_var hN hv hd hcd), fun F0 H0 F H σ S Q q => ?_⟩
  refine g2 F0 H0 F H σ S _ fun y F2 H2 gr2 hd2 => ?_
  obtain ⟨a, xs, e1, h0, hf, hh, hx⟩ := S.ok n _ hi
  refine ⟨_, e1, ?_⟩
  obtain ⟨p, ys, rfl, h2, k2⟩ := dp_lst hd2
  refine ⟨p, a, ys, xs, rfl, rfl, gr2.s.seq h2, .inl (.inl (gr2.h _ _ hh)), by rw [hx.len, k2.len]; exact hl, fun l hl => ?_⟩
  exact q l _ F2 _ (gr2.trans (gr_newH gr2.s hl)) (gr2.h.free hl) (gr2.s.free hl) upd_same (k2.append (dpAll_mono gr2.f hx))
/-- [..] * k -/
theorem be_rep {k : Int} (ha : BA X es env ds) (hk : BE X b env (.ok (.int k))) (h1 : -(2 ^ 63) ≤ k) (h2 : k < 2 ^ 63) (hl : ds.length * k.toNat ≤ sizeLine) (hz : ds.length ≤ sizeLine) {p2 : Pos} : BE X (.BinOp (.List es p2) .Mult b pos) env (.fr (List.replicate k.toNat ds).flatten) := by
  obtain ⟨t, g1, g2⟩ := ha
  obtain ⟨u, k1, k2⟩ := hk
  refine ⟨_, pe_op op_rep (pe_lst g1) k1, fun F0 H0 F H σ S Q q => ?_⟩
  refine g2 F0 H0 F H σ S _ fun vs F1 H1 gr1 hd => ⟨by rw [hd.len]; exact hz, fun p hp => ?_⟩
  have gr2 := gr1.trans (gr_newH (o := .lst vs) gr1.s hp)
  refine k2 F0 H0 F1 _ σ (S.grow gr2) _ fun y F3 H3 gr3 hy => ?_
  refine ⟨p, k, vs, rfl, dp_int hy, gr3.h _ _ upd_same, h1, h2, by rw [hd.len]; exact hl, fun l hl => ?_⟩
  have g := gr2.trans gr3
  exact q l _ F3 _ (g.trans (gr_newH g.s hl)) (g.h.free hl) (g.s.free hl) upd_same ((dpAll_mono gr3.f hd).rep _)

/-! ### comparisons -/
theorem be_lt (ha : BE X a env (.ok (.int i))) (hb : BE X b env (.ok (.int j))) : BE X (.Compare a [.Lt] [b] pos) env (.ok (.bool (decide (i < j)))) := be_cmp op_lt ha.r hb.r (s_I0 rfl) (nomark _)
theorem be_le (ha : BE X a env (.ok (.int i))) (hb : BE X b env (.ok (.int j))) : BE X (.Compare a [.LtE] [b] pos) env (.ok (.bool (decide (i ≤ j)))) := be_cmp op_le ha.r hb.r (s_I0 rfl) (nomark _)
theorem be_gt (ha : BE X a env (.ok (.int i))) (hb : BE X b env (.ok (.int j))) : BE X (.Compare a [.Gt] [b] pos) env (.ok (.bool (decide (j < i)))) := be_cmp op_gt ha.r hb.r (s_I0 rfl) (nomark _)
theorem be_ge (ha : BE X a env (.ok (.int i))) (hb : BE X b env (.ok (.int j))) : BE X (.Compare a [.GtE] [b] pos) env (.ok (.bool (decide (j ≤ i)))) := be_cmp op_ge ha.r hb.r (s_I0 rfl) (nomark _)
theorem bt_lt (ha : BE X a env (.ok (.int i))) (hb : BE X b env (.ok (.int j))) : BT X (.Compare a [.Lt] [b] pos) env (decide (i < j)) := bt_cmp op_lt ha.r hb.r (s_I0 rfl) (nomark _)
theorem bt_le (ha : BE X a env (.ok (.int i))) (hb : BE X b env (.ok (.int j))) : BT X (.Compare a [.LtE] [b] pos) env (decide (i ≤ j)) := bt_cmp op_le ha.r hb.r (s_I0 rfl) (nomark _)
theorem bt_gt (ha : BE X a env (.ok (.int i))) (hb : BE X b env (.ok (.int j))) : BT X (.Compare a [.Gt] [b] pos) env (decide (j < i)) := bt_cmp op_gt ha.r hb.r (s_I0 rfl) (nomark _)
theorem bt_ge (ha : BE X a env (.ok (.int i))) (hb : BE X b env (.ok (.int j))) : BT X (.Compare a [.GtE] [b] pos) env (decide (j ≤ i)) := bt_cmp op_ge ha.r hb.r (s_I0 rfl) (nomark _)
/-- == of plain values of one kind -/
theorem s_eqI : R2S K rEq (.int i) (.int j) (.bool (decide (i = j))) := ⟨_, rfl, fun H x y hx hy Q q => by
  rw [dp_int hx, dp_int hy]
  refine ⟨rfl, ?_⟩
  rw [dec_int]
  have e : (i == j) = decide (i = j) := by by_cases h : i = j <;> simp [h]
  rw [e]
  exact q⟩
theorem s_neI : R2S K rNe (.int i) (.int j) (.bool (!decide (i = j))) := ⟨_, rfl, fun H x y hx hy Q q => by
  rw [dp_int hx, dp_int hy]
  refine ⟨rfl, ?_⟩
  rw [dec_int]
  have e : (i == j) = decide (i = j) := by by_cases h : i = j <;> simp [h]
  rw [e]
  exact q⟩
theorem s_eqB : R2S K rEq (.bool b1) (.bool b2) (.bool (decide (b1 = b2))) := ⟨_, rfl, fun H x y hx hy Q q => by
  rw [dp_bl hx, dp_bl hy]
  refine ⟨rfl, ?_⟩
  rw [dec_bl]
  have e : (b1 == b2) = decide (b1 = b2) := by by_cases h : b1 = b2 <;> simp [h]
  rw [e]
  exact q⟩
theorem s_neB : R2S K rNe (.bool b1) (.bool b2) (.bool (!decide (b1 = b2))) := ⟨_, rfl, fun H x y hx hy Q q => by
  rw [dp_bl hx, dp_bl hy]
  refine ⟨rfl, ?_⟩
  rw [dec_bl]
  have e : (b1 == b2) = decide (b1 = b2) := by by_cases h : b1 = b2 <;> simp [h]
  rw [e]
  exact q⟩
theorem s_eqS {x y : Str} : R2S K rEq (.str x) (.str y) (.bool (decide (x = y))) := ⟨_, rfl, fun H u v hx hy Q q => by
  rw [dp_str hx, dp_str hy]
  refine ⟨rfl, ?_⟩
  rw [dec_str]
  have e : (x == y) = decide (x = y) := by by_cases h : x = y <;> simp [h]
  rw [e]
  exact q⟩
theorem s_neS {x y : Str} : R2S K rNe (.str x) (.str y) (.bool (!decide (x = y))) := ⟨_, rfl, fun H u v hx hy Q q => by
  rw [dp_str hx, dp_str hy]
  refine ⟨rfl, ?_⟩
  rw [dec_str]
  have e : (x == y) = decide (x = y) := by by_cases h : x = y <;> simp [h]
  rw [e]
  exact q⟩
theorem be_eqI (ha : BE X a env (.ok (.int i))) (hb : BE X b env (.ok (.int j))) : BE X (.Compare a [.Eq] [b] pos) env (.ok (.bool (decide (i = j)))) := be_cmp op_eq ha.r hb.r s_eqI (nomark _)
theorem be_neI (ha : BE X a env (.ok (.int i))) (hb : BE X b env (.ok (.int j))) : BE X (.Compare a [.NotEq] [b] pos) env (.ok (.bool (!decide (i = j)))) := be_cmp op_ne ha.r hb.r s_neI (nomark _)
theorem bt_eqI (ha : BE X a env (.ok (.int i))) (hb : BE X b env (.ok (.int j))) : BT X (.Compare a [.Eq] [b] pos) env (decide (i = j)) := bt_cmp op_eq ha.r hb.r s_eqI (nomark _)
theorem bt_neI (ha : BE X a env (.ok (.int i))) (hb : BE X b env (.ok (.int j))) : BT X (.Compare a [.NotEq] [b] pos) env (!decide (i = j)) := bt_cmp op_ne ha.r hb.r s_neI (nomark _)
theorem be_eqB (ha : BE X a env (.ok (.bool b1))) (hb : BE X b env (.ok (.bool b2))) : BE X (.Compare a [.Eq] [b] pos) env (.ok (.bool (decide (b1 = b2)))) := be_cmp op_eq ha.r hb.r s_eqB (nomark _)
theorem be_neB (ha : BE X a env (.ok (.bool b1))) (hb : BE X b env (.ok (.bool b2))) : BE X (.Compare a [.NotEq] [b] pos) env (.ok (.bool (!decide (b1 = b2)))) := be_cmp op_ne ha.r hb.r s_neB (nomark _)
theorem bt_eqB (ha : BE X a env (.ok (.bool b1))) (hb : BE X b env (.ok (.bool b2))) : BT X (.Compare a [.Eq] [b] pos) env (decide (b1 = b2)) := bt_cmp op_eq ha.r hb.r s_eqB (nomark _)
theorem bt_neB (ha : BE X a env (.ok (.bool b1))) (hb : BE X b env (.ok (.bool b2))) : BT X (.Compare a [.NotEq] [b] pos) env (!decide (b1 = b2)) := bt_cmp op_ne ha.r hb.r s_neB (nomark _)
theorem be_eqS {x y : Str} (ha : BE X a env (.ok (.str x))) (hb : BE X b env (.ok (.str y))) : BE X (.Compare a [.Eq] [b] pos) env (.ok (.bool (decide (x = y)))) := be_cmp op_eq ha.r hb.r s_eqS (nomark _)
theorem be_neS {x y : Str} (ha : BE X a env (.ok (.str x))) (hb : BE X b env (.ok (.str y))) : BE X (.Compare a [.NotEq] [b] pos) env (.ok (.bool (!decide (x = y)))) := be_cmp op_ne ha.r hb.r s_neS (nomark _)
theorem bt_eqS {x y : Str} (ha : BE X a env (.ok (.str x))) (hb : BE X b env (.ok (.str y))) : BT X (.Compare a [.Eq] [b] pos) env (decide (x = y)) := bt_cmp op_eq ha.r hb.r s_eqS (nomark _)
theorem bt_neS {x y : Str} (ha : BE X a env (.ok (.str x))) (hb : BE X b env (.ok (.str y))) : BT X (.Compare a [.NotEq] [b] pos) env (!decide (x = y)) := bt_cmp op_ne ha.r hb.r s_neS (nomark _)
/-- == of data at any depth -/
theorem s_eqD (h1 : SeqAt.shaped d1 = true) (h2 : SeqAt.shaped d2 = true) : R2S K (rEqD K) d1 d2 (.bool (PyData.eqv d1 d2)) := ⟨_, rfl, fun H x y hx hy Q q => ⟨d1, d2, hx.l2 (PySem.SeqAt.canLay_of_shaped h1), hy.l2 (PySem.SeqAt.canLay_of_shaped h2), h1, h2, q⟩⟩
theorem s_neD (h1 : SeqAt.shaped d1 = true) (h2 : SeqAt.shaped d2 = true) : R2S K (rNeD K) d1 d2 (.bool (!PyData.eqv d1 d2)) := ⟨_, rfl, fun H x y hx hy Q q => ⟨d1, d2, hx.l2 (PySem.SeqAt.canLay_of_shaped h1), hy.l2 (PySem.SeqAt.canLay_of_shaped h2), h1, h2, q⟩⟩
theorem be_eqD (hu : X.A.units + 64 < cLine) (ha : BR X a env d1) (hb : BR X b env d2) (h1 : SeqAt.shaped d1 = true) (h2 : SeqAt.shaped d2 = true) : BE X (.Compare a [.Eq] [b] pos) env (.ok (.bool (PyData.eqv d1 d2))) := be_cmp (op_eqD hu) ha hb (s_eqD h1 h2) (nomark _)
theorem be_neD (hu : X.A.units + 64 < cLine) (ha : BR X a env d1) (hb : BR X b env d2) (h1 : SeqAt.shaped d1 = true) (h2 : SeqAt.shaped d2 = true) : BE X (.Compare a [.NotEq] [b] pos) env (.ok (.bool (!PyData.eqv d1 d2))) := be_cmp (op_neD hu) ha hb (s_neD h1 h2) (nomark _)
theorem bt_eqD (hu : X.A.units + 64 < cLine) (ha : BR X a env d1) (hb : BR X b env d2) (h1 : SeqAt.shaped d1 = true) (h2 : SeqAt.shaped d2 = true) : BT X (.Compare a [.Eq] [b] pos) env (PyData.eqv d1 d2) := bt_cmp (op_eqD hu) ha hb (s_eqD h1 h2) (nomark _)
theorem bt_neD (hu : X.A.units + 64 < cLine) (ha : BR X a env d1) (hb : BR X b env d2) (h1 : SeqAt.shaped d1 = true) (h2 : SeqAt.shaped d2 = true) : BT X (.Compare a [.NotEq] [b] pos) env (!PyData.eqv d1 d2) := bt_cmp (op_neD hu) ha hb (s_neD h1 h2) (nomark _)
def isN : PyData → Bool
  | .none => true
  | _ => false
theorem s_isN : R2S K (fun x y H Q => y = .non ∧ Q (.bl (decide (x = .non))) H) d .none (.bool (isN d)) := ⟨_, rfl, fun H x y hx hy Q q => by
  refine ⟨dp_non hy, ?_⟩
  cases hx <;> exact q⟩
theorem s_notN : R2S K (fun x y H Q => y = .non ∧ Q (.bl (!decide (x = .non))) H) d .none (.bool (!isN d)) := ⟨_, rfl, fun H x y hx hy Q q => by
  refine ⟨dp_non hy, ?_⟩
  cases hx <;> exact q⟩
theorem be_isN {k : Nat} {p2 : Pos} (ha : BR X a env d) : BE X (.Compare a [.Is] [.Constant .none k p2] pos) env (.ok (.bool (isN d))) := be_cmp op_isN ha be_non.r s_isN (nomark _)
theorem be_notN {k : Nat} {p2 : Pos} (ha : BR X a env d) : BE X (.Compare a [.IsNot] [.Constant .none k p2] pos) env (.ok (.bool (!isN d))) := be_cmp op_notN ha be_non.r s_notN (nomark _)
theorem bt_isN {k : Nat} {p2 : Pos} (ha : BR X a env d) : BT X (.Compare a [.Is] [.Constant .none k p2] pos) env (isN d) := bt_cmp op_isN ha be_non.r s_isN (nomark _)
theorem bt_notN {k : Nat} {p2 : Pos} (ha : BR X a env d) : BT X (.Compare a [.IsNot] [.Constant .none k p2] pos) env (!isN d) := bt_cmp op_notN ha be_non.r s_notN (nomark _)
/-- x in (1, 2, ..), ints -/
theorem inV_ints (i : Int) : ∀ ns : List Int, inV (.int i) (ns.map V.int) = decide (i ∈ ns)
  | [] => by simp [inV]
  | n :: r => by
    have ih := inV_ints i r
    unfold inV at ih ⊢
    rw [List.map_cons, List.any_cons, ih]
    have e : eqV (V.int n) (V.int i) = decide (i = n) := by
      show (n == i) = decide (i = n)
      by_cases h : n = i
      · subst h
        simp
      · have h' : ¬ i = n := fun q => h q.symm
        simp [h, h']
    rw [e]
    by_cases h : i = n <;> simp [h]
theorem flat_ints : ∀ ns : List Int, (ns.map V.int).all flatV = true
  | [] => rfl
  | n :: r => by
    rw [List.map_cons, List.all_cons, flat_ints r]
    rfl
theorem s_inT {ns : List Int} : R2S K (rIn K false) (.int i) (.tuple (ns.map .int)) (.bool (decide (i ∈ ns))) := ⟨_, rfl, fun H x y hx hy Q q => by
  obtain ⟨p, xs, rfl, h1, h2⟩ := dp_tup hy
  rw [dp_int hx]
  have e := dpAll_intsV h2
  subst e
  refine ⟨p, _, rfl, .inr (SqT.of h1), rfl, flat_ints ns, ?_⟩
  rw [if_neg Bool.false_ne_true, inV_ints]
  exact q⟩
theorem be_inT {ns : List Int} {ts : List Expr} {k : Nat} {p2 : Pos} (ha : BE X a env (.ok (.int i))) (hb : BE X (.Tuple ts k p2) env (.ok (.tuple (ns.map .int)))) (hm : behindInMarks .In (.Tuple ts k p2) = false := by with_unfolding_all rfl) : BE X (.Compare a [.In] [.Tuple ts k p2] pos) env (.ok (.bool (decide (i ∈ ns)))) :=
  be_cmp op_in_seq ha.r hb.r s_inT hm
theorem bt_inT {ns : List Int} {ts : List Expr} {k : Nat} {p2 : Pos} (ha : BE X a env (.ok (.int i))) (hb : BE X (.Tuple ts k p2) env (.ok (.tuple (ns.map .int)))) (hm : behindInMarks .In (.Tuple ts k p2) = false := by with_unfolding_all rfl) : BT X (.Compare a [.In] [.Tuple ts k p2] pos) env (decide (i ∈ ns)) :=
  bt_cmp op_in_seq ha.r hb.r s_inT hm
/-- x in xs, data at any depth -/
theorem s_inD (h1 : SeqAt.shaped d = true) (h2 : SeqAt.shaped (.list ds) = true) : R2S K (rInD K) d (.list ds) (.bool (ds.any fun z => PyData.eqv z d)) := ⟨_, rfl, fun H x y hx hy Q q => ⟨d, ds, hx.l2 (PySem.SeqAt.canLay_of_shaped h1), hy.l2 (PySem.SeqAt.canLay_of_shaped h2), h1, h2, q⟩⟩
theorem s_ninD (h1 : SeqAt.shaped d = true) (h2 : SeqAt.shaped (.list ds) = true) : R2S K (rNotInD K) d (.list ds) (.bool (!ds.any fun z => PyData.eqv z d)) := ⟨_, rfl, fun H x y hx hy Q q => ⟨d, ds, hx.l2 (PySem.SeqAt.canLay_of_shaped h1), hy.l2 (PySem.SeqAt.canLay_of_shaped h2), h1, h2, q⟩⟩
theorem be_inD (hu : X.A.units + 65 < cLine) (ha : BR X a env d) (hb : BR X b env (.list ds)) (h1 : SeqAt.shaped d = true) (h2 : SeqAt.shaped (.list ds) = true) (hm : behindInMarks .In b = false) : BE X (.Compare a [.In] [b] pos) env (.ok (.bool (ds.any fun z => PyData.eqv z d))) := be_cmp (op_inD hu) ha hb (s_inD h1 h2) hm
theorem bt_ninD (hu : X.A.units + 65 < cLine) (ha : BR X a env d) (hb : BR X b env (.list ds)) (h1 : SeqAt.shaped d = true) (h2 : SeqAt.shaped (.list ds) = true) (hm : behindInMarks .NotIn b = false) : BT X (.Compare a [.NotIn] [b] pos) env (!ds.any fun z => PyData.eqv z d) := bt_cmp (op_notInD hu) ha hb (s_ninD h1 h2) hm

/-! ### built-ins by name -/
/-- by values that are read; the answer a plain value -/
theorem be_callS {r : List V → Hp → VK → Prop} {id : String} {x : Str} {p2 : Pos} {v : V} (hc : CallR X (.builtin id) r) (hm : X.mg x = none) (hv : bootBuiltins x = some (.builtin id)) (ha : BB X (e :: es) env ds) (hsv : scV d = some v)
    (hr : ∀ (H : Hp) (vs : List V), DpAll X.K H vs ds → ∀ Q : VK, Q v H → r vs H Q) (hg : Gl X x := by rfl) (hn : x ≠ "__name__" := by decide) (hdb : (x == ("__debug__" : Str)) = false := by decide) (he : starEach (e :: es) X.env = (false, eval e X.env) :: starEach es X.env := by rfl)
    (hpl : (backTo pos (starEach es X.env)).any (·.1) = false := by rfl) : BE X (.Call (.Name x p2) (e :: es) [] pos) env (.ok d) := by
  obtain ⟨t, h1, h2⟩ := ha
  refine ⟨_, pe_callB hc hg hm hv h1 hn hdb he hpl, fun F0 H0 F H σ S Q q => ?_⟩
  exact h2 F0 H0 F H σ S _ fun vs F' H' g hd => hr H' vs hd Q (q v F' H' g (dp_scV hsv))
theorem be_abs {p2 : Pos} (hm : X.mg "abs" = none) (ha : BE X a env (.ok (.int i))) (hg : Gl X "abs" := by rfl) (hs : starEach [a] X.env = (false, eval a X.env) :: starEach [] X.env := by rfl) (hpl : (backTo pos (starEach [] X.env)).any (·.1) = false := by rfl) : BE X (.Call (.Name "abs" p2) [a] [] pos) env (.ok (.int (i.natAbs : Int))) :=
  be_callS (v := .int (i.natAbs : Int)) call_abs hm boot_abs (bb_cons ha.r bb_nil hs) rfl (fun H vs h Q q => by
    cases h with
    | cons h1 h2 =>
      cases h2
      have e : (if i < 0 then -i else i) = (i.natAbs : Int) := by split <;> omega
      refine ⟨i, by rw [dp_int h1], ?_⟩
      rw [e]
      exact q) hg (by decide) (by decide) hs hpl
theorem be_max2 {p2 : Pos} (hcalm : X.calm = true) (hm : X.mg "max" = none) (ha : BE X a env (.ok (.int i))) (hb : BE X b env (.ok (.int j))) (hg : Gl X "max" := by rfl) (hs : starEach [a, b] X.env = (false, eval a X.env) :: starEach [b] X.env := by rfl) (hs2 : starEach [b] X.env = (false, eval b X.env) :: starEach [] X.env := by rfl)
    (hpl : (backTo pos (starEach [b] X.env)).any (·.1) = false := by rfl) : BE X (.Call (.Name "max" p2) [a, b] [] pos) env (.ok (.int (max i j))) :=
  be_callS (v := .int (max i j)) (call_max2 hcalm) hm (by decide +kernel) (bb_cons ha.r (bb_cons hb.r bb_nil hs2) hs) rfl (fun H vs h Q q => by
    cases h with
    | cons h1 h2 =>
      cases h2 with
      | cons h2 h3 =>
        cases h3
        have e : (if j > i then j else i) = max i j := by
          rw [Int.max_def]
          split <;> split <;> omega
        refine ⟨i, j, by rw [dp_int h1, dp_int h2], ?_⟩
        rw [e]
        exact q) hg (by decide) (by decide) hs hpl
theorem be_min2 {p2 : Pos} (hcalm : X.calm = true) (hm : X.mg "min" = none) (ha : BE X a env (.ok (.int i))) (hb : BE X b env (.ok (.int j))) (hg : Gl X "min" := by rfl) (hs : starEach [a, b] X.env = (false, eval a X.env) :: starEach [b] X.env := by rfl) (hs2 : starEach [b] X.env = (false, eval b X.env) :: starEach [] X.env := by rfl)
    (hpl : (backTo pos (starEach [b] X.env)).any (·.1) = false := by rfl) : BE X (.Call (.Name "min" p2) [a, b] [] pos) env (.ok (.int (min i j))) :=
  be_callS (v := .int (min i j)) (call_min2 hcalm) hm (by decide +kernel) (bb_cons ha.r (bb_cons hb.r bb_nil hs2) hs) rfl (fun H vs h Q q => by
    cases h with
    | cons h1 h2 =>
      cases h2 with
      | cons h2 h3 =>
        cases h3
        have e : (if j < i then j else i) = min i j := by
          rw [Int.min_def]
          split <;> split <;> omega
        refine ⟨i, j, by rw [dp_int h1, dp_int h2], ?_⟩
        rw [e]
        exact q) hg (by decide) (by decide) hs hpl
/-- max, min of a list of ints -/
theorem be_maxL {p2 : Pos} {ns : List Int} {m : Int} (hcalm : X.calm = true) (hm : X.mg "max" = none) (ha : BR X a env (.list (ns.map .int))) (hin : m ∈ ns) (hub : ∀ y, y ∈ ns → y ≤ m) (hg : Gl X "max" := by rfl) (hs : starEach [a] X.env = (false, eval a X.env) :: starEach [] X.env := by rfl)
    (hpl : (backTo pos (starEach [] X.env)).any (·.1) = false := by rfl) : BE X (.Call (.Name "max" p2) [a] [] pos) env (.ok (.int m)) :=
  be_callS (v := .int m) (cr_max hcalm) hm (by decide +kernel) (bb_cons ha bb_nil hs) rfl (fun H vs h Q q => by
    cases h with
    | cons h1 h2 =>
      cases h2
      obtain ⟨p, xs, rfl, k1, k2⟩ := dp_lst h1
      have e := dpAll_intsV k2
      subst e
      refine ⟨p, ns, rfl, k1, List.length_pos_of_mem hin, fun m' h' hu => ?_⟩
      have e : m' = m := Int.le_antisymm (hub m' h') (hu m hin)
      subst e
      exact q) hg (by decide) (by decide) hs hpl
theorem be_minL {p2 : Pos} {ns : List Int} {m : Int} (hcalm : X.calm = true) (hm : X.mg "min" = none) (ha : BR X a env (.list (ns.map .int))) (hin : m ∈ ns) (hub : ∀ y, y ∈ ns → m ≤ y) (hg : Gl X "min" := by rfl) (hs : starEach [a] X.env = (false, eval a X.env) :: starEach [] X.env := by rfl)
    (hpl : (backTo pos (starEach [] X.env)).any (·.1) = false := by rfl) : BE X (.Call (.Name "min" p2) [a] [] pos) env (.ok (.int m)) :=
  be_callS (v := .int m) (cr_min hcalm) hm (by decide +kernel) (bb_cons ha bb_nil hs) rfl (fun H vs h Q q => by
    cases h with
    | cons h1 h2 =>
      cases h2
      obtain ⟨p, xs, rfl, k1, k2⟩ := dp_lst h1
      have e := dpAll_intsV k2
      subst e
      refine ⟨p, ns, rfl, k1, List.length_pos_of_mem hin, fun m' h' hu => ?_⟩
      have e : m' = m := Int.le_antisymm (hu m hin) (hub m' h')
      subst e
      exact q) hg (by decide) (by decide) hs hpl
theorem be_len {p2 : Pos} (hm : X.mg "len" = none) (ha : BR X a env (.list ds)) (hg : Gl X "len" := by rfl) (hs : starEach [a] X.env = (false, eval a X.env) :: starEach [] X.env := by rfl) (hpl : (backTo pos (starEach [] X.env)).any (·.1) = false := by rfl) : BE X (.Call (.Name "len" p2) [a] [] pos) env (.ok (.int ds.length)) :=
  be_callS (v := .int ds.length) call_len_seq hm PySem.boot_len (bb_cons ha bb_nil hs) rfl (fun H vs h Q q => by
    cases h with
    | cons h1 h2 =>
      cases h2
      obtain ⟨p, xs, rfl, k1, k2⟩ := dp_lst h1
      refine ⟨p, xs, rfl, .inl k1, ?_⟩
      rw [k2.len]
      exact q) hg (by decide) (by decide) hs hpl
theorem be_lenT {p2 : Pos} (hm : X.mg "len" = none) (ha : BR X a env (.tuple ds)) (hg : Gl X "len" := by rfl) (hs : starEach [a] X.env = (false, eval a X.env) :: starEach [] X.env := by rfl) (hpl : (backTo pos (starEach [] X.env)).any (·.1) = false := by rfl) : BE X (.Call (.Name "len" p2) [a] [] pos) env (.ok (.int ds.length)) :=
  be_callS (v := .int ds.length) call_len_seq hm PySem.boot_len (bb_cons ha bb_nil hs) rfl (fun H vs h Q q => by
    cases h with
    | cons h1 h2 =>
      cases h2
      obtain ⟨p, xs, rfl, k1, k2⟩ := dp_tup h1
      refine ⟨p, xs, rfl, .inr (SqT.of k1), ?_⟩
      rw [k2.len]
      exact q) hg (by decide) (by decide) hs hpl
/-- int(a truth) -/
theorem be_intB {p2 : Pos} (hm : X.mg "int" = none) (ha : BE X a env (.ok (.bool b1))) (hg : Gl X "int" := by rfl) (hs : starEach [a] X.env = (false, eval a X.env) :: starEach [] X.env := by rfl) (hpl : (backTo pos (starEach [] X.env)).any (·.1) = false := by rfl) : BE X (.Call (.Name "int" p2) [a] [] pos) env (.ok (.int (if b1 then 1 else 0))) := by
  obtain ⟨t, h1, h2⟩ := ba_cons ha ba_nil hs
  refine ⟨_, pe_callTy call_int1 hg hm boot_int h1 (by decide) (by decide) hs hpl, fun F0 H0 F H σ S Q q => ?_⟩
  refine h2 F0 H0 F H σ S _ fun vs F' H' g hd => ?_
  cases hd with
  | cons k1 k2 =>
    cases k2
    exact .inr ⟨b1, by rw [dp_bl k1], q _ F' H' g (.int _)⟩
/-- list(x) of a list -/
theorem be_listOf {p2 : Pos} (hm : X.mg "list" = none) (ha : BE X a env (.ok (.list ds))) (hg : Gl X "list" := by rfl) (hs : starEach [a] X.env = (false, eval a X.env) :: starEach [] X.env := by rfl) (hpl : (backTo pos (starEach [] X.env)).any (·.1) = false := by rfl) : BE X (.Call (.Name "list" p2) [a] [] pos) env (.fr ds) := by
  obtain ⟨t, h1, h2⟩ := ba_cons ha ba_nil hs
  refine ⟨_, pe_callTy call_list_of hg hm boot_list h1 (by decide) (by decide) hs hpl, fun F0 H0 F H σ S Q q => ?_⟩
  refine h2 F0 H0 F H σ S _ fun vs F' H' g hd => ?_
  cases hd with
  | cons k1 k2 =>
    cases k2
    obtain ⟨p, xs, rfl, m1, m2⟩ := dp_lst k1
    exact ⟨p, xs, rfl, .inl (g.s.seq m1), fun l hl => q l xs F' _ (g.trans (gr_newH g.s hl)) (g.h.free hl) (g.s.free hl) upd_same m2⟩
theorem be_listOfO (n : Nat) {x : Str} {p2 p3 : Pos} (hi : env[n]? = some (.own ds)) (hm : X.mg "list" = none) (hg : Gl X "list" := by rfl) (hN : X.N[n]? = some x := by rfl) (hv : Vis X.env.scope x := by first | exact Or.inl rfl | exact Or.inr (Or.inl rfl) | exact Or.inr (Or.inr rfl)) (hdd : (x == ("__debug__" : Str)) = false := by decide)
    (hcd : (x == ("__classdict__" : Str)) = false := by decide) : BE X (.Call (.Name "list" p2) [.Name x p3] [] pos) env (.fr ds) := by
  refine ⟨_, pe_callTy call_list_of hg hm boot_list (pa_cons (pe_var hN hv hdd hcd) pa_nil), fun F0 H0 F H σ S Q q => ?_⟩
  obtain ⟨a, xs, e1, h0, hf, hh, hx⟩ := S.ok n _ hi
  exact ⟨_, e1, a, xs, rfl, .inl (.inl (.inl hh)), fun l hl => q l xs F _ (gr_newH S.ex hl) hl (S.ex.free hl) upd_same hx⟩

/-! ### isinstance -/
def tyN : PyData → String
  | .none => "NoneType"
  | .bool _ => "bool"
  | .int _ => "int"
  | .str _ => "str"
  | .list _ => "list"
  | .tuple _ => "tuple"
  | .dict _ => "dict"
theorem dp_ty {H : Hp} {v : V} (h : Dp K H v d) : TyX K H v (.type (tyN d)) := by
  cases h with
  | non => exact .base .non
  | bl b => exact .base (.bl b)
  | int i => exact .base (.int i)
  | str x => exact .base (.str x)
  | lst h _ =>
    rcases h with (h | ⟨o, h⟩) | ⟨o, its, n, h1, h2, _⟩
    · exact .base (.lst h)
    · exact .base (.frz h)
    · exact .kList h1 h2
  | tup h _ => exact .base (.tup h)
  | dct h => exact .base (.dK h)
theorem be_isi {T : Str} {n : String} {p2 p3 : Pos} {r : Bool} (hm : X.mg "isinstance" = none) (hmT : X.mg T = none) (hvT : bootBuiltins T = some (.type n)) (ha : BR X a env d) (hr : kitB (tyN d) n = some r) (hg : Gl X "isinstance" := by rfl) (hgT : Gl X T := by rfl) (hnT : T ≠ "__name__" := by decide) (hdT : (T == ("__debug__" : Str)) = false := by decide)
    (hs : starEach [a, .Name T p3] X.env = (false, eval a X.env) :: starEach [.Name T p3] X.env := by rfl) (hpl : (backTo pos (starEach [.Name T p3] X.env)).any (·.1) = false := by rfl) : BE X (.Call (.Name "isinstance" p2) [a, .Name T p3] [] pos) env (.ok (.bool r)) := by
  obtain ⟨t, h1, h2⟩ := ha
  refine ⟨_, pe_callB call_isi hg hm boot_isinstance (pa_cons h1 (pa_cons (pe_bltn (v := .ty n) hgT hmT hvT rfl hnT hdT) pa_nil) hs) (by decide) (by decide) hs hpl, fun F0 H0 F H σ S Q q => ?_⟩
  exact h2 F0 H0 F H σ S _ fun v F' H' g hd => ⟨v, .ty n, .type (tyN d), .type n, r, rfl, .ty n, dp_ty hd, kit_ty hr, q _ F' H' g (.bl r)⟩
end
end PD
/-! PD: statements, loops, defs, calls -/
namespace PD
open PySem L2 PySem.Spec PyProof.Rows

inductive Out where
  | nx (env : List Sl)
  | rt (r : Vr)
  | bk (env : List Sl)
  | ct (env : List Sl)
  | er (C : Addr) (env : List Sl)
/-- the slots outside T stay -/
def Keep (T : Nat → Prop) (σ σ' : L2.St) : Prop := ∀ k, ¬ T k → σ'[k]? = σ[k]?
theorem Keep.refl {T : Nat → Prop} {σ : L2.St} : Keep T σ σ := fun _ _ => rfl
theorem Keep.trans {T : Nat → Prop} {σ σ1 σ2 : L2.St} (a : Keep T σ σ1) (b : Keep T σ1 σ2) : Keep T σ σ2 := fun k h => (b k h).trans (a k h)
theorem Keep.set {T : Nat → Prop} {σ : L2.St} {i : Nat} {v : Option V} (h : T i) : Keep T σ (σ.set i v) := fun k hk => List.getElem?_set_ne fun e => hk (by rw [← e]; exact h)
theorem Keep.mono {T T' : Nat → Prop} {σ σ' : L2.St} (h : ∀ k, T k → T' k) (a : Keep T σ σ') : Keep T' σ σ' := fun k hk => a k fun q => hk (h k q)
abbrev TAll : Nat → Prop := fun _ => True
/-- T: the slots that may be stored -/
def Post (K : PySem.W.Frag) (W : WX) (T : Nat → Prop) (F0 H0 F : Hp) (σ : L2.St) (D : Ends) : Out → Prop
  | .nx env => ∀ F' H' σ', Ex F F' → Keep T σ σ' → Sd K F0 H0 F' H' σ' env → D.nx σ' H'
  | .rt r => PostV K F0 H0 D.rt r
  | .bk env => ∀ F' H' σ', Ex F F' → Keep T σ σ' → Sd K F0 H0 F' H' σ' env → D.bk σ' H'
  | .ct env => ∀ F' H' σ', Ex F F' → Keep T σ σ' → Sd K F0 H0 F' H' σ' env → D.ct σ' H'
  | .er C env => ∀ F' H' σ', Ex F F' → Keep T σ σ' → Sd K F0 H0 F' H' σ' env → W (.ref C) none σ' H'
theorem Post.fwd {K : PySem.W.Frag} {W : WX} {T : Nat → Prop} {F0 H0 F F1 : Hp} {σ σ1 : L2.St} {D : Ends} {o : Out} (e : Ex F F1) (k : Keep T σ σ1) (h : Post K W T F0 H0 F σ D o) : Post K W T F0 H0 F1 σ1 D o := by
  cases o with
  | nx env => exact fun F' H' σ' e' k' S => h F' H' σ' (e.trans e') (k.trans k') S
  | rt r => exact h
  | bk env => exact fun F' H' σ' e' k' S => h F' H' σ' (e.trans e') (k.trans k') S
  | ct env => exact fun F' H' σ' e' k' S => h F' H' σ' (e.trans e') (k.trans k') S
  | er C env => exact fun F' H' σ' e' k' S' => h F' H' σ' (e.trans e') (k.trans k') S'
def BS (X : Cx) (W : WX) (T : Nat → Prop) (st : Stmt) (env : List Sl) (out : Out) : Prop :=
  ∃ t : TS, PS X st t ∧ ∀ (F0 H0 F H : Hp) (σ : L2.St) (D : Ends), Sd X.K F0 H0 F H σ env → Post X.K W T F0 H0 F σ D out → t D σ H
def BSs (X : Cx) (W : WX) (T : Nat → Prop) (st : List Stmt) (env : List Sl) (out : Out) : Prop :=
  ∃ t : TS, PSs X st t ∧ ∀ (F0 H0 F H : Hp) (σ : L2.St) (D : Ends), Sd X.K F0 H0 F H σ env → Post X.K W T F0 H0 F σ D out → t D σ H
/-- an expression that raises -/
def BX (X : Cx) (W : WX) (e : Expr) (env : List Sl) (C : Addr) : Prop :=
  ∃ t : TE, PE X e t ∧ ∀ (F0 H0 F H : Hp) (σ : L2.St), Sd X.K F0 H0 F H σ env → ∀ Q : VK, (∀ F' H', Gr F H F' H' → W (.ref C) none σ H') → t σ H Q
def BXA (X : Cx) (W : WX) (es : List Expr) (env : List Sl) (C : Addr) : Prop :=
  ∃ t : TA, PA X es t ∧ ∀ (F0 H0 F H : Hp) (σ : L2.St), Sd X.K F0 H0 F H σ env → ∀ Q : List V → Hp → Prop, (∀ F' H', Gr F H F' H' → W (.ref C) none σ H') → t σ H Q
/-- what surrounds a body -/
structure Cz (X : Cx) (W : WX) (k : Nat) : Prop where
  hp : PassesOwn (model X.prog X.w) X.A X.env X.xe
  tk : Takes X W
  hr : Room k X.A
  calm : X.calm = true
  nd : X.N.Nodup
theorem Cz.u {X : Cx} {W : WX} {k : Nat} (C : Cz X W k) : X.A.units + 64 < cLine := C.hr.units
theorem Cz.u1 {X : Cx} {W : WX} {k : Nat} (C : Cz X W k) : X.A.units + 1 < cLine := hu_of C.hr
theorem Cz.u65 {X : Cx} {W : WX} {k : Nat} (C : Cz X W k) : X.A.units + 65 < cLine := by have := C.hr.un; omega

section
variable {X : Cx} {W : WX} {T : Nat → Prop} {env env1 : List Sl} {e a b : Expr} {es : List Expr} {st : Stmt} {rest A B : List Stmt} {d d1 d2 : D} {ds : List D} {o : Vr} {out : Out} {pos : Pos} {b1 : Bool} {C : Addr}

/-! ### blocks -/
theorem bss_nil : BSs X W T [] env (.nx env) := ⟨_, pss_nil, fun F0 H0 F H σ D S p => p F H σ (Same.refl _) Keep.refl S⟩
theorem bss_cons (h1 : BS X W T st env (.nx env1)) (h2 : BSs X W T rest env1 out) : BSs X W T (st :: rest) env out := by
  obtain ⟨t, p1, q1⟩ := h1
  obtain ⟨u, p2, q2⟩ := h2
  refine ⟨_, pss_cons p1 p2, fun F0 H0 F H σ D S p => ?_⟩
  exact q1 F0 H0 F H σ { D with nx := u D } S fun F' H' σ' e k S' => q2 F0 H0 F' H' σ' D S' (p.fwd e k)
theorem bss_one (h1 : BS X W T st env out) : BSs X W T [st] env out := by
  obtain ⟨t, p1, q1⟩ := h1
  exact ⟨_, pss_one p1, q1⟩
/-- a statement that leaves the block -/
theorem bss_rt {r : Vr} (h1 : BS X W T st env (.rt r)) : BSs X W T (st :: rest) env (.rt r) := by
  obtain ⟨t, p1, q1⟩ := h1
  exact ⟨_, pss_cons p1 (u := fun _ _ _ => False) ⟨fun _ _ _ _ _ _ h => h.elim⟩, fun F0 H0 F H σ D S p => q1 F0 H0 F H σ _ S p⟩
theorem bss_er (h1 : BS X W T st env (.er C env1)) : BSs X W T (st :: rest) env (.er C env1) := by
  obtain ⟨t, p1, q1⟩ := h1
  exact ⟨_, pss_cons p1 (u := fun _ _ _ => False) ⟨fun _ _ _ _ _ _ h => h.elim⟩, fun F0 H0 F H σ D S p => q1 F0 H0 F H σ _ S p⟩
theorem bss_bk {env1 : List Sl} (h1 : BS X W T st env (.bk env1)) : BSs X W T (st :: rest) env (.bk env1) := by
  obtain ⟨t, p1, q1⟩ := h1
  exact ⟨_, pss_cons p1 (u := fun _ _ _ => False) ⟨fun _ _ _ _ _ _ h => h.elim⟩, fun F0 H0 F H σ D S p => q1 F0 H0 F H σ _ S p⟩
/-- an owned list is a value from here on -/
theorem bss_freeze (i : Nat) (hi : env[i]? = some (.own ds)) (h : BSs X W T A (env.set i (.v (.list ds))) out) : BSs X W T A env out := by
  obtain ⟨t, p1, q1⟩ := h
  refine ⟨t, p1, fun F0 H0 F H σ D S p => ?_⟩
  obtain ⟨F', g, ex, S'⟩ := S.freeze hi
  exact q1 F0 H0 F' H σ D S' (p.fwd ex Keep.refl)
theorem bss_forget (i : Nat) (h : BSs X W T A (env.set i .no) out) : BSs X W T A env out := by
  obtain ⟨t, p1, q1⟩ := h
  exact ⟨t, p1, fun F0 H0 F H σ D S p => q1 F0 H0 F H σ D S.forget p⟩
/-- slot i is of no more use -/
theorem BSs.fg (i : Nat) (h : BSs X W T A env (.nx env1)) : BSs X W T A env (.nx (env1.set i .no)) := by
  obtain ⟨t, p1, q1⟩ := h
  exact ⟨t, p1, fun F0 H0 F H σ D S p => q1 F0 H0 F H σ D S fun F' H' σ' e k S' => p F' H' σ' e k S'.forget⟩
theorem BS.fg (i : Nat) (h : BS X W T st env (.nx env1)) : BS X W T st env (.nx (env1.set i .no)) := by
  obtain ⟨t, p1, q1⟩ := h
  exact ⟨t, p1, fun F0 H0 F H σ D S p => q1 F0 H0 F H σ D S fun F' H' σ' e k S' => p F' H' σ' e k S'.forget⟩
theorem BSs.to {out' : Out} (h : BSs X W T A env out) (q : out = out') : BSs X W T A env out' := q ▸ h
theorem BS.to {out' : Out} (h : BS X W T st env out) (q : out = out') : BS X W T st env out' := q ▸ h

/-! ### small statements -/
theorem bs_pass : BS X W T (.Pass pos) env (.nx env) := ⟨_, ps_pass, fun F0 H0 F H σ D S p => p F H σ (Same.refl _) Keep.refl S⟩
theorem bs_set (i : Nat) {x : Str} {pos' : Pos} (C : X.N.Nodup) (h : BE X e env (.ok d)) (hi : X.N[i]? = some x := by rfl) (hx : Loc X.env.scope x := by first | exact Or.inl rfl | exact Or.inr rfl) (hs : swapsWith e (some (.Name x pos')) pos.line X.env = pure false := by rfl)
    (hf : X.fn x = true ∨ X.env.scope.names.lookup x = some .local := by first | exact .inl rfl | exact .inr rfl | assumption) (hT : T i := by first | exact trivial | decide) : BS X W T (.Assign [.Name x pos'] e pos) env (.nx (env.set i (.v d))) := by
  obtain ⟨t, p1, q1⟩ := h
  refine ⟨_, ps_set C hi hx p1 hs hf, fun F0 H0 F H σ D S p => ?_⟩
  exact q1 F0 H0 F H σ S _ fun v F' H' g hd => p F' H' _ g.f (Keep.set hT) ((S.grow g).set_v hd)
/-- a new list comes: owned -/
theorem bs_own (i : Nat) {x : Str} {pos' : Pos} (C : X.N.Nodup) (h : BE X e env (.fr ds)) (hi : X.N[i]? = some x := by rfl) (hx : Loc X.env.scope x := by first | exact Or.inl rfl | exact Or.inr rfl) (hs : swapsWith e (some (.Name x pos')) pos.line X.env = pure false := by rfl)
    (hf : X.fn x = true ∨ X.env.scope.names.lookup x = some .local := by first | exact .inl rfl | exact .inr rfl | assumption) (hT : T i := by first | exact trivial | decide) : BS X W T (.Assign [.Name x pos'] e pos) env (.nx (env.set i (.own ds))) := by
  obtain ⟨t, p1, q1⟩ := h
  refine ⟨_, ps_set C hi hx p1 hs hf, fun F0 H0 F H σ D S p => ?_⟩
  exact q1 F0 H0 F H σ S _ fun q xs F' H' g hp hf' hh hd => p F' H' _ g.f (Keep.set hT) (S.set_new g hp rfl ⟨q, xs, rfl, S.gr.h.free hp, hf', hh, hd⟩)
theorem bs_expr (h : BE X e env o) (hs : swapsWith e none pos.line X.env = pure false := by rfl) : BS X W T (.Expr e pos) env (.nx env) := by
  obtain ⟨t, p1, q1⟩ := h
  refine ⟨_, ps_expr p1 hs, fun F0 H0 F H σ D S p => ?_⟩
  refine q1 F0 H0 F H σ S _ ?_
  cases o with
  | ok d => exact fun v F' H' g hd => p F' H' σ g.f Keep.refl (S.grow g)
  | fr ds => exact fun q xs F' H' g _ _ _ _ => p F' H' σ g.f Keep.refl (S.grow g)
  | tf ds es => exact fun _ _ _ _ F' H' g _ _ _ _ _ _ _ _ _ => p F' H' σ g.f Keep.refl (S.grow g)
theorem bs_ret (h : BE X e env o) : BS X W T (.Return (some e) pos) env (.rt o) := by
  obtain ⟨t, p1, q1⟩ := h
  exact ⟨_, ps_ret p1, fun F0 H0 F H σ D S p => q1 F0 H0 F H σ S _ (PostV.back S.gr p)⟩
theorem bs_retO (i : Nat) {x : Str} {p2 : Pos} (hi : env[i]? = some (.own ds)) (hN : X.N[i]? = some x := by rfl) (hv : Vis X.env.scope x := by first | exact Or.inl rfl | exact Or.inr (Or.inl rfl) | exact Or.inr (Or.inr rfl)) (hdd : (x == ("__debug__" : Str)) = false := by decide)
    (hcd : (x == ("__classdict__" : Str)) = false := by decide) : BS X W T (.Return (some (.Name x p2)) pos) env (.rt (.fr ds)) := by
  refine ⟨_, ps_ret (pe_var hN hv hdd hcd), fun F0 H0 F H σ D S p => ?_⟩
  obtain ⟨a, xs, e1, h0, hf, hh, hx⟩ := S.ok i _ hi
  exact ⟨_, e1, p a xs F H S.gr h0 hf hh hx⟩
theorem bs_retN : BS X W T (.Return none pos) env (.rt (.ok .none)) := ⟨_, ps_retN, fun F0 H0 F H σ D S p => p .non F H S.gr .non⟩
theorem bs_ifT {c : Expr} (hc : BT X c env b1) (hb : b1 = true) (h : BSs X W T A env out) : BS X W T (.If c A B pos) env out := by
  subst hb
  obtain ⟨t, p1, q1⟩ := hc
  obtain ⟨u, p2, q2⟩ := h
  refine ⟨_, ps_if p1 p2 (u := fun _ _ _ => False) ⟨fun _ _ _ _ _ _ h => h.elim⟩, fun F0 H0 F H σ D S p => ?_⟩
  exact q1 F0 H0 F H σ S _ fun F' H' g => iteT (q2 F0 H0 F' H' σ D (S.grow g) (p.fwd g.f Keep.refl))
theorem bs_ifF {c : Expr} (hc : BT X c env b1) (hb : b1 = false) (h : BSs X W T B env out) : BS X W T (.If c A B pos) env out := by
  subst hb
  obtain ⟨t, p1, q1⟩ := hc
  obtain ⟨u, p2, q2⟩ := h
  refine ⟨_, ps_if p1 (t := fun _ _ _ => False) ⟨fun _ _ _ _ _ _ h => h.elim⟩ p2, fun F0 H0 F H σ D S p => ?_⟩
  exact q1 F0 H0 F H σ S _ fun F' H' g => iteF (q2 F0 H0 F' H' σ D (S.grow g) (p.fwd g.f Keep.refl))
theorem bs_if {c : Expr} (hc : BT X c env b1) (h1 : b1 = true → BSs X W T A env out) (h2 : b1 = false → BSs X W T B env out) : BS X W T (.If c A B pos) env out := by
  cases b1 with
  | true => exact bs_ifT hc rfl (h1 rfl)
  | false => exact bs_ifF hc rfl (h2 rfl)
theorem bs_bk : BS X W T (.Break pos) env (.bk env) := ⟨_, ps_break, fun F0 H0 F H σ D S p => p F H σ (Same.refl _) Keep.refl S⟩

/-! ### owned lists changed -/
theorem bs_append (i : Nat) {x : Str} {p2 ap cp : Pos} (hie : env[i]? = some (.own ds)) (h : BE X e env (.ok d)) (hl : ds.length < sizeLine) (hN : X.N[i]? = some x := by rfl) (hv : Vis X.env.scope x := by first | exact Or.inl rfl | exact Or.inr (Or.inl rfl) | exact Or.inr (Or.inr rfl))
    (hdd : (x == ("__debug__" : Str)) = false := by decide) (hcd : (x == ("__classdict__" : Str)) = false := by decide)
    (hbase : attributeBase (.Name x p2) "append" X.env (eval (.Name x p2) X.env) = eval (.Name x p2) X.env := by rfl)
    (hfew : ((backTo cp (starEach (e :: []) X.env)).all (fun x => !x.1) && (backToKw cp (keywordEach [] X.env)).all (fun x => x.1.isSome)
      && decide ((e :: []).length + ([] : List Keyword).length + (if ([] : List Keyword).isEmpty then 0 else 1) < 30)) = true := by rfl)
    (hline : (ap.endLine == cp.line) = true := by rfl) (hs : starEach (e :: []) X.env = (false, eval e X.env) :: starEach [] X.env := by rfl) (hplain : (backTo cp (starEach [] X.env)).any (·.1) = false := by rfl)
    (hsw : swapsWith (.Call (.Attribute (.Name x p2) "append" ap) [e] [] cp) none pos.line X.env = pure false := by rfl) :
    BS X W T (.Expr (.Call (.Attribute (.Name x p2) "append" ap) [e] [] cp) pos) env (.nx (env.set i (.own (ds ++ [d])))) := by
  obtain ⟨t, p1, q1⟩ := h
  refine ⟨_, ps_expr (pe_bm PySem.F.plainAttrs_list PySem.F.slot_list_append PySem.F.type_list_append mt_append (pe_var hN hv hdd hcd) (pa_cons p1 pa_nil hs) hbase hfew hline hs hplain) hsw, fun F0 H0 F H σ D S p => ?_⟩
  obtain ⟨a, xs, e1, h0, hf, hh, hx⟩ := S.ok i _ hie
  refine ⟨_, e1, .inl ⟨rfl, _, .inl (.inl hh)⟩, ?_⟩
  refine q1 F0 H0 F H σ S _ fun v F' H' g hd => ?_
  have S' := S.grow g
  have hf' := own_stays g hf hh (fun _ z => nomatch z)
  refine ⟨a, xs, v, rfl, rfl, g.h _ _ hh, by rw [hx.len]; exact hl, ?_⟩
  exact p F' _ σ g.f Keep.refl (S'.mut hie rfl e1 h0 hf' rfl ⟨a, _, rfl, h0, hf', upd_same, (dpAll_mono g.f hx).append (.cons hd .nil)⟩)
theorem bs_insert (i : Nat) {x : Str} {p2 ap cp : Pos} {k : Nat} (hie : env[i]? = some (.own ds)) (ha : BE X a env (.ok (.int (k : Int)))) (h : BE X e env (.ok d)) (hl : ds.length < sizeLine) (hk : (k : Int) < 2 ^ 63) (hN : X.N[i]? = some x := by rfl)
    (hv : Vis X.env.scope x := by first | exact Or.inl rfl | exact Or.inr (Or.inl rfl) | exact Or.inr (Or.inr rfl))
    (hdd : (x == ("__debug__" : Str)) = false := by decide) (hcd : (x == ("__classdict__" : Str)) = false := by decide)
    (hbase : attributeBase (.Name x p2) "insert" X.env (eval (.Name x p2) X.env) = eval (.Name x p2) X.env := by rfl)
    (hfew : ((backTo cp (starEach (a :: [e]) X.env)).all (fun x => !x.1) && (backToKw cp (keywordEach [] X.env)).all (fun x => x.1.isSome)
      && decide ((a :: [e]).length + ([] : List Keyword).length + (if ([] : List Keyword).isEmpty then 0 else 1) < 30)) = true := by rfl)
    (hline : (ap.endLine == cp.line) = true := by rfl) (hs : starEach (a :: [e]) X.env = (false, eval a X.env) :: starEach [e] X.env := by rfl) (hs2 : starEach (e :: []) X.env = (false, eval e X.env) :: starEach [] X.env := by rfl) (hplain : (backTo cp (starEach [e] X.env)).any (·.1) = false := by rfl)
    (hsw : swapsWith (.Call (.Attribute (.Name x p2) "insert" ap) [a, e] [] cp) none pos.line X.env = pure false := by rfl) :
    BS X W T (.Expr (.Call (.Attribute (.Name x p2) "insert" ap) [a, e] [] cp) pos) env (.nx (env.set i (.own (ds.take k ++ [d] ++ ds.drop k)))) := by
  obtain ⟨t, p1, q1⟩ := h
  obtain ⟨u, k1, k2⟩ := ha
  refine ⟨_, ps_expr (pe_bm PySem.F.plainAttrs_list PySem.F.slot_list_insert PySem.F.type_list_insert mt_insert (pe_var hN hv hdd hcd) (pa_cons k1 (pa_cons p1 pa_nil hs2) hs) hbase hfew hline hs hplain) hsw, fun F0 H0 F H σ D S p => ?_⟩
  obtain ⟨a, xs, e1, h0, hf, hh, hx⟩ := S.ok i _ hie
  refine ⟨_, e1, .inl ⟨rfl, _, .inl (.inl hh)⟩, ?_⟩
  refine k2 F0 H0 F H σ S _ fun w F1 H1 g1 hw => ?_
  refine q1 F0 H0 F1 H1 σ (S.grow g1) _ fun v F' H' g2 hd => ?_
  have g := g1.trans g2
  have S' := S.grow g
  have hf' := own_stays g hf hh (fun _ z => nomatch z)
  have ew := dp_int hw
  subst ew
  refine ⟨a, xs, (k : Int), v, rfl, rfl, g.h _ _ hh, by rw [hx.len]; exact hl, by omega, hk, ?_⟩
  have hx' := dpAll_mono g.f hx
  exact p F' _ σ g.f Keep.refl (S'.mut hie rfl e1 h0 hf' rfl ⟨a, _, rfl, h0, hf', upd_same, by rw [Int.toNat_natCast]; exact ((hx'.take k).append (.cons hd .nil)).append (hx'.drop k)⟩)
theorem bs_clear (i : Nat) {x : Str} {p2 ap cp : Pos} (hie : env[i]? = some (.own ds)) (hN : X.N[i]? = some x := by rfl) (hv : Vis X.env.scope x := by first | exact Or.inl rfl | exact Or.inr (Or.inl rfl) | exact Or.inr (Or.inr rfl))
    (hdd : (x == ("__debug__" : Str)) = false := by decide) (hcd : (x == ("__classdict__" : Str)) = false := by decide)
    (hbase : attributeBase (.Name x p2) "clear" X.env (eval (.Name x p2) X.env) = eval (.Name x p2) X.env := by rfl) (hline : (ap.endLine == cp.line) = true := by rfl)
    (hsw : swapsWith (.Call (.Attribute (.Name x p2) "clear" ap) [] [] cp) none pos.line X.env = pure false := by rfl) :
    BS X W T (.Expr (.Call (.Attribute (.Name x p2) "clear" ap) [] [] cp) pos) env (.nx (env.set i (.own []))) := by
  refine ⟨_, ps_expr (pe_bm0 PySem.F.plainAttrs_list PySem.F.slot_list_clear PySem.F.type_list_clear mt_clear (pe_var hN hv hdd hcd) hbase hline) hsw, fun F0 H0 F H σ D S p => ?_⟩
  obtain ⟨a, xs, e1, h0, hf, hh, hx⟩ := S.ok i _ hie
  refine ⟨_, e1, .inl ⟨rfl, _, .inl (.inl hh)⟩, a, xs, rfl, rfl, hh, ?_⟩
  exact p F _ σ (Same.refl _) Keep.refl (S.mut hie rfl e1 h0 hf rfl ⟨a, _, rfl, h0, hf, upd_same, .nil⟩)
/-- xs[k] = e -/
theorem bs_setAt (i : Nat) {x : Str} {p2 p3 : Pos} {k : Int} {j : Nat} (hie : env[i]? = some (.own ds)) (hk : BE X b env (.ok (.int k))) (h : BE X e env (.ok d)) (hj : ixN ds.length k = some j) (hN : X.N[i]? = some x := by rfl)
    (hv : Vis X.env.scope x := by first | exact Or.inl rfl | exact Or.inr (Or.inl rfl) | exact Or.inr (Or.inr rfl)) (hdd : (x == ("__debug__" : Str)) = false := by decide) (hcd : (x == ("__classdict__" : Str)) = false := by decide)
    (ha : ∀ v, assign (.Subscript (.Name x p2) b p3) X.env v = (do
      let ov ← holding [v] (eval (.Name x p2) X.env)
      let iv ← holding [v, ov] (eval b X.env)
      standAt p3
      holding [v, ov, iv] (setItem ov iv v)
      release [v, ov, iv] []) := by intro _; rfl)
    (hs : swapsWithSole [.Subscript (.Name x p2) b p3] e pos.line X.env = pure false := by rfl) (hw : swappedStores [.Subscript (.Name x p2) b p3] e X.env = pure none := by rfl)
    (h1 : (assignEach [.Subscript (.Name x p2) b p3] X.env).map (·.2) = [assign (.Subscript (.Name x p2) b p3) X.env] := by rfl) :
    BS X W T (.Assign [.Subscript (.Name x p2) b p3] e pos) env (.nx (env.set i (.own (ds.set j d)))) := by
  obtain ⟨t, p1, q1⟩ := h
  obtain ⟨u, k1, k2⟩ := hk
  refine ⟨_, ps_asg p1 (pg_sub (pe_var hN hv hdd hcd) k1 set_list ha) hs hw h1, fun F0 H0 F H σ D S p => ?_⟩
  refine q1 F0 H0 F H σ S _ fun v F1 H1 g1 hd => ?_
  have S1 := S.grow g1
  obtain ⟨a, xs, e1, h0, hf, hh, hx⟩ := S1.ok i _ hie
  refine ⟨_, e1, ?_⟩
  refine k2 F0 H0 F1 H1 σ S1 _ fun w F' H' g2 hw => ?_
  have ew := dp_int hw
  subst ew
  have hf' := own_stays g2 hf hh (fun _ z => nomatch z)
  refine ⟨a, xs, k, j, rfl, rfl, g2.h _ _ hh, by rw [hx.len]; exact hj, ?_⟩
  exact p F' _ σ (g1.trans g2).f Keep.refl ((S1.grow g2).mut hie rfl e1 h0 hf' rfl ⟨a, _, rfl, h0, hf', upd_same, (dpAll_mono g2.f hx).set (dp_mono g2.f hd) j⟩)

/-! ### dicts whose keys are tuples of ints and whose values are True -/
theorem bs_dict (i : Nat) {x : Str} {pos' p2 : Pos} (C : X.N.Nodup) (hi : X.N[i]? = some x := by rfl) (hx : Loc X.env.scope x := by first | exact Or.inl rfl | exact Or.inr rfl) (hs : swapsWith (.Dict [] [] p2) (some (.Name x pos')) pos.line X.env = pure false := by rfl)
    (hf : X.fn x = true ∨ X.env.scope.names.lookup x = some .local := by first | exact .inl rfl | exact .inr rfl | assumption) (hT : T i := by first | exact trivial | decide) : BS X W T (.Assign [.Name x pos'] (.Dict [] [] p2) pos) env (.nx (env.set i (.keys []))) := by
  refine ⟨_, ps_set C hi hx pe_dnewT hs hf, fun F0 H0 F H σ D S p => ?_⟩
  intro q hq
  exact p F _ _ (Same.refl _) (Keep.set hT) (S.set_new (gr_newH S.ex hq) hq rfl ⟨q, rfl, S.gr.h.free hq, S.ex.free hq, upd_same⟩)
theorem key_v {ks : List (List Int)} {k : List Int} : (valV (ks.map fun k => (k.map Sum.inl, V.bl true) : List (List Key × V)) (k.map Sum.inl)) = if k ∈ ks then some (.bl true) else none := by
  have inj : ∀ {a b : List Int}, a.map (Sum.inl : Int → Key) = b.map Sum.inl → a = b := fun {a b} h => List.map_inj_right (fun _ _ z => Sum.inl.inj z) |>.mp h
  induction ks with
  | nil => rfl
  | cons c r ih =>
    rw [List.map_cons]
    by_cases h : c = k
    · subst h
      rw [valV_pos rfl, if_pos List.mem_cons_self]
    · rw [valV_neg (fun q => h (inj q)), ih]
      have h' : ¬ k = c := fun q => h q.symm
      simp [h']
theorem key_kV (k : List Int) : (k.map (Sum.inl : Int → Key)).map kV = k.map V.int := by
  rw [List.map_map]
  rfl
theorem dp_ints {K : PySem.W.Frag} {H : Hp} {v : V} {k : List Int} (h : Dp K H v (.tuple (k.map .int))) : ∃ a, v = .ref a ∧ H a = some (.tup (k.map V.int)) := by
  obtain ⟨a, xs, rfl, h1, h2⟩ := dp_tup h
  exact ⟨a, rfl, by rw [h1, dpAll_intsV h2]⟩
theorem bt_keyIn (i : Nat) {x : Str} {p2 : Pos} {ks : List (List Int)} {k : List Int} (hu : X.A.units + 1 < cLine) (hie : env[i]? = some (.keys ks)) (h : BE X a env (.ok (.tuple (k.map .int)))) (hN : X.N[i]? = some x := by rfl)
    (hv : Vis X.env.scope x := by first | exact Or.inl rfl | exact Or.inr (Or.inl rfl) | exact Or.inr (Or.inr rfl)) (hdd : (x == ("__debug__" : Str)) = false := by decide) (hcd : (x == ("__classdict__" : Str)) = false := by decide)
    (hm : behindInMarks .In (.Name x p2) = false := by rfl) : BT X (.Compare a [.In] [.Name x p2] pos) env (decide (k ∈ ks)) := by
  obtain ⟨t, p1, q1⟩ := h
  refine ⟨_, pt_cmp (pc_din hu p1 (pe_var hN hv hdd hcd)) hm, fun F0 H0 F H σ S Q q => ?_⟩
  refine q1 F0 H0 F H σ S _ fun v F' H' g hd => ?_
  obtain ⟨c, e1, h0, hf, hh⟩ := (S.grow g).ok i _ hie
  obtain ⟨p, rfl, hp⟩ := dp_ints hd
  refine ⟨_, e1, c, _, rfl, DGet.t hh (k := k.map Sum.inl) (by rw [key_kV]; exact g.s _ _ hp), _, rfl, ?_⟩
  rw [key_v]
  have e : (if k ∈ ks then some (V.bl true) else none).isSome = decide (k ∈ ks) := by by_cases h : k ∈ ks <;> simp [h]
  rw [e]
  exact q F' H' g
theorem bt_keyNotIn (i : Nat) {x : Str} {p2 : Pos} {ks : List (List Int)} {k : List Int} (hu : X.A.units + 1 < cLine) (hie : env[i]? = some (.keys ks)) (h : BE X a env (.ok (.tuple (k.map .int)))) (hN : X.N[i]? = some x := by rfl)
    (hv : Vis X.env.scope x := by first | exact Or.inl rfl | exact Or.inr (Or.inl rfl) | exact Or.inr (Or.inr rfl)) (hdd : (x == ("__debug__" : Str)) = false := by decide) (hcd : (x == ("__classdict__" : Str)) = false := by decide)
    (hm : behindInMarks .NotIn (.Name x p2) = false := by rfl) : BT X (.Compare a [.NotIn] [.Name x p2] pos) env (!decide (k ∈ ks)) := by
  obtain ⟨t, p1, q1⟩ := h
  refine ⟨_, pt_cmp (pc_dnotin hu p1 (pe_var hN hv hdd hcd)) hm, fun F0 H0 F H σ S Q q => ?_⟩
  refine q1 F0 H0 F H σ S _ fun v F' H' g hd => ?_
  obtain ⟨c, e1, h0, hf, hh⟩ := (S.grow g).ok i _ hie
  obtain ⟨p, rfl, hp⟩ := dp_ints hd
  refine ⟨_, e1, c, _, rfl, DGet.t hh (k := k.map Sum.inl) (by rw [key_kV]; exact g.s _ _ hp), _, rfl, ?_⟩
  rw [key_v]
  have e : (!(if k ∈ ks then some (V.bl true) else none).isSome) = !decide (k ∈ ks) := by by_cases h : k ∈ ks <;> simp [h]
  rw [e]
  exact q F' H' g
/-- found[spot] = True, a new key -/
theorem bs_keyPut (i : Nat) {x : Str} {p2 p3 p4 : Pos} {j : Nat} {ks : List (List Int)} {k : List Int} (hu : X.A.units + 1 < cLine) (hie : env[i]? = some (.keys ks)) (h : BE X a env (.ok (.tuple (k.map .int)))) (hk : k ∉ ks) (hl : ks.length < sizeLine) (hN : X.N[i]? = some x := by rfl)
    (hv : Vis X.env.scope x := by first | exact Or.inl rfl | exact Or.inr (Or.inl rfl) | exact Or.inr (Or.inr rfl)) (hdd : (x == ("__debug__" : Str)) = false := by decide) (hcd : (x == ("__classdict__" : Str)) = false := by decide)
    (hs : swapsWith (.Constant (.bool true) j p4) (some (.Subscript (.Name x p2) a p3)) pos.line X.env = pure false := by rfl) :
    BS X W T (.Assign [.Subscript (.Name x p2) a p3] (.Constant (.bool true) j p4) pos) env (.nx (env.set i (.keys (ks ++ [k])))) := by
  obtain ⟨t, p1, q1⟩ := h
  refine ⟨_, ps_dput hu (pe_var hN hv hdd hcd) p1 pe_bl hs, fun F0 H0 F H σ D S p => ?_⟩
  obtain ⟨c, e1, h0, hf, hh⟩ := S.ok i _ hie
  refine ⟨_, e1, ?_⟩
  refine q1 F0 H0 F H σ S _ fun v F' H' g hd => ?_
  obtain ⟨q, rfl, hq⟩ := dp_ints hd
  have hf' := own_stays g hf hh (fun _ z => nomatch z)
  refine ⟨c, _, rfl, DPut.t (g.h _ _ hh) (k := k.map Sum.inl) (by rw [key_kV]; exact g.s _ _ hq) (by rw [List.length_map]; exact hl), ?_⟩
  have ek : putK (ks.map fun k => (k.map Sum.inl, V.bl true) : List (List Key × V)) (k.map Sum.inl) (.bl true) = (ks ++ [k]).map fun k => (k.map Sum.inl, V.bl true) := by
    unfold putK
    rw [valV_any, key_v, if_neg hk]
    simp
  rw [ek]
  exact p F' _ σ g.f Keep.refl ((S.grow g).mut hie rfl e1 h0 hf' rfl ⟨c, rfl, h0, hf', upd_same⟩)
/-- all tuples of H are frozen -/
def satT (F H : Hp) : Hp := fun a => match F a with
  | some o => some o
  | none => match H a with
    | some (.tup xs) => some (.tup xs)
    | _ => none
theorem satT_f {F H : Hp} : Ex F (satT F H) := fun a o h => by
  unfold satT
  rw [h]
theorem satT_tup {F H : Hp} {a : Addr} {xs : List V} (s : Ex F H) (h : H a = some (.tup xs)) : satT F H a = some (.tup xs) := by
  unfold satT
  cases q : F a with
  | some o =>
    have := s a o q
    rw [h] at this
    cases this
    rfl
  | none => rw [h]
theorem satT_gr {F H : Hp} (s : Ex F H) : Gr F H (satT F H) H := by
  refine ⟨satT_f, Same.refl _, fun a o h => ?_, fun a o h0 h => ?_⟩
  · unfold satT at h
    cases q : F a with
    | some u =>
      rw [q] at h
      cases h
      exact s a _ q
    | none =>
      rw [q] at h
      cases r : H a with
      | none => rw [r] at h; cases h
      | some w =>
        rw [r] at h
        cases w <;> first | (cases h; done) | (cases h; rfl)
  · unfold satT at h
    rw [h0] at h
    cases r : H a with
    | none => exact .inl rfl
    | some w =>
      rw [r] at h
      cases w <;> first | (cases h; done) | (cases h; exact .inr ⟨_, rfl⟩)
theorem keys_dp {K : PySem.W.Frag} {F H : Hp} (hF : ∀ (a : Addr) (xs : List V), H a = some (.tup xs) → F a = some (.tup xs)) {kvs : List (List Key × V)} {bs : List Addr} (hb : IsKeys H kvs bs) : ∀ ks : List (List Int), (ks.map fun k => (k.map Sum.inl, V.bl true)) = kvs → DpAll K F (bs.map V.ref) (ks.map fun k => .tuple (k.map .int)) := by
  induction hb with
  | nil =>
    intro ks hks
    cases ks with
    | nil => exact .nil
    | cons k r => cases hks
  | cons h1 h2 ih =>
    intro ks hks
    cases ks with
    | nil => cases hks
    | cons k r =>
      rw [List.map_cons] at hks
      injection hks with e1 e2
      subst e1
      rw [key_kV] at h1
      exact .cons (.tup (hF _ _ h1) (dpAll_ints k)) (ih r e2)
/-- list(d), d such a dict -/
theorem be_listKeys (i : Nat) {x : Str} {p2 p3 : Pos} {ks : List (List Int)} (hcalm : X.calm = true) (hie : env[i]? = some (.keys ks)) (hm : X.mg "list" = none) (hg : Gl X "list" := by rfl) (hN : X.N[i]? = some x := by rfl) (hv : Vis X.env.scope x := by first | exact Or.inl rfl | exact Or.inr (Or.inl rfl) | exact Or.inr (Or.inr rfl))
    (hdd : (x == ("__debug__" : Str)) = false := by decide) (hcd : (x == ("__classdict__" : Str)) = false := by decide) : BE X (.Call (.Name "list" p2) [.Name x p3] [] pos) env (.fr (ks.map fun k => .tuple (k.map .int))) := by
  refine ⟨_, pe_callTy (call_list_dT hcalm) hg hm boot_list (pa_cons (pe_var hN hv hdd hcd) pa_nil), fun F0 H0 F H σ S Q q => ?_⟩
  obtain ⟨c, e1, h0, hf, hh⟩ := S.ok i _ hie
  refine ⟨_, e1, c, _, rfl, .inl hh, fun l bs hl hb => ?_⟩
  have g : Gr F H (satT F H) (upd H l (.lst (bs.map V.ref))) := (satT_gr S.ex).trans (gr_newH (satT_gr S.ex).s hl)
  refine q l _ (satT F H) _ g hl ((satT_gr S.ex).s.free hl) upd_same ?_
  exact keys_dp (fun a xs h => satT_tup S.ex h) hb ks rfl
/-- len of a dict -/
theorem be_lenK (i : Nat) {x : Str} {p2 p3 : Pos} {ks : List (List Int)} (hie : env[i]? = some (.keys ks)) (hm : X.mg "len" = none) (hg : Gl X "len" := by rfl) (hN : X.N[i]? = some x := by rfl) (hv : Vis X.env.scope x := by first | exact Or.inl rfl | exact Or.inr (Or.inl rfl) | exact Or.inr (Or.inr rfl))
    (hdd : (x == ("__debug__" : Str)) = false := by decide) (hcd : (x == ("__classdict__" : Str)) = false := by decide) : BE X (.Call (.Name "len" p2) [.Name x p3] [] pos) env (.ok (.int ks.length)) := by
  refine ⟨_, pe_callB call_len_dT hg hm PySem.boot_len (pa_cons (pe_var hN hv hdd hcd) pa_nil), fun F0 H0 F H σ S Q q => ?_⟩
  obtain ⟨c, e1, h0, hf, hh⟩ := S.ok i _ hie
  refine ⟨_, e1, c, _, rfl, hh, ?_⟩
  rw [List.length_map]
  exact q _ F H (Gr.refl S.ex) (.int _)
end
end PD
/-! PD: loops, comprehensions -/
namespace PD
open PySem L2 PySem.Spec PyProof.Rows

/-! ### what is walked -/
/-- the iterator J yields the items ds as long as Good stands -/
structure Walks (K : PySem.W.Frag) (Good : Hp → Hp → L2.St → Prop) (J : It) (ds : List D) : Prop where
  go : ∀ F H σ i d, Good F H σ → ds[i]? = some d → J.go i H ∧ ∀ x H2, J.yld i H x H2 → H2 = H ∧ Dp K F x d
  stop : ∀ F H σ, Good F H σ → J.stop ds.length H
/-- an iterable that is frozen, or new -/
def BI (X : Cx) (tg it : Expr) (env : List Sl) (ds : List D) : Prop :=
  ∃ wi : TI, PI X tg it wi ∧ ∀ (F0 H0 F H : Hp) (σ : L2.St), Sd X.K F0 H0 F H σ env → ∀ R : It → Hp → Prop,
    (∀ J F' H', Gr F H F' H' → Walks X.K (fun F2 H2 _ => Ex F' F2 ∧ Ex F2 H2) J ds → R J H') → wi σ H R
section
variable {X : Cx} {W : WX} {T : Nat → Prop} {env : List Sl} {tg it e a b : Expr} {es : List Expr} {d : D} {ds : List D} {pos : Pos} {out : Out}
theorem walks_list {K : PySem.W.Frag} {F' : Hp} {p : Addr} {xs : List V} (h1 : SqL K F' p xs) (h2 : DpAll K F' xs ds) : Walks K (fun F2 H2 _ => Ex F' F2 ∧ Ex F2 H2) (Itl K p) ds := by
  refine ⟨fun F2 H2 σ i d ⟨e1, e2⟩ hi => ?_, fun F2 H2 σ ⟨e1, e2⟩ => ⟨xs, (e1.trans e2).seq h1, by rw [h2.len]; exact Nat.le_refl _⟩⟩
  obtain ⟨v, hv, hd⟩ := h2.get hi
  refine ⟨⟨xs, v, (e1.trans e2).seq h1, hv⟩, fun x H3 ⟨e3, y⟩ => ⟨e3, ?_⟩⟩
  have := y xs ((e1.trans e2).seq h1)
  rw [hv] at this
  cases this
  exact dp_mono e1 hd
theorem bi_list (h : BE X it env (.ok (.list ds))) : BI X tg it env ds := by
  obtain ⟨t, p1, q1⟩ := h
  refine ⟨_, pi_list p1, fun F0 H0 F H σ S R r => ?_⟩
  refine q1 F0 H0 F H σ S _ fun v F' H' g hd => ?_
  obtain ⟨p, xs, rfl, h1, h2⟩ := dp_lst hd
  exact ⟨p, rfl, ⟨xs, g.s.seq h1⟩, r _ F' H' g (walks_list h1 h2)⟩
theorem bi_tup (h : BE X it env (.ok (.tuple ds))) : BI X tg it env ds := by
  obtain ⟨t, p1, q1⟩ := h
  refine ⟨_, pi_tup p1, fun F0 H0 F H σ S R r => ?_⟩
  refine q1 F0 H0 F H σ S _ fun v F' H' g hd => ?_
  obtain ⟨p, xs, rfl, h1, h2⟩ := dp_tup hd
  refine ⟨p, rfl, ⟨xs, SqT.of (g.s _ _ h1)⟩, r _ F' H' g ⟨fun F2 H2 σ i d ⟨e1, e2⟩ hi => ?_, fun F2 H2 σ ⟨e1, e2⟩ => ⟨xs, SqT.of (e2 _ _ (e1 _ _ h1)), by rw [h2.len]; exact Nat.le_refl _⟩⟩⟩
  obtain ⟨v, hv, hd⟩ := h2.get hi
  refine ⟨⟨xs, v, SqT.of (e2 _ _ (e1 _ _ h1)), hv⟩, fun x H3 ⟨e3, y⟩ => ⟨e3, ?_⟩⟩
  have := y xs (SqT.of (e2 _ _ (e1 _ _ h1)))
  rw [hv] at this
  cases this
  exact dp_mono e1 hd
/-- 0, 1, .., n - 1; lo, lo + 1, .. -/
def irng (lo : Int) (n : Nat) : List D := (List.range n).map fun (i : Nat) => PyData.int (lo + (i : Int))
theorem irng_get {lo : Int} {n i : Nat} {d : D} (h : (irng lo n)[i]? = some d) : i < n ∧ d = .int (lo + i) := by
  unfold irng at h
  rw [List.getElem?_map] at h
  by_cases hi : i < n
  · rw [List.getElem?_range hi] at h
    cases h
    exact ⟨hi, rfl⟩
  · rw [List.getElem?_eq_none (by simpa using hi)] at h
    cases h
theorem irng_len {lo : Int} {n : Nat} : (irng lo n).length = n := by simp [irng]
theorem walks_rng {K : PySem.W.Frag} {G : Hp → Hp → L2.St → Prop} {lo : Int} {n : Nat} : Walks K G (Itr lo n) (irng lo n) := by
  refine ⟨fun F H σ i d _ hi => ?_, fun F H σ _ => by rw [irng_len]; exact Nat.le_refl _⟩
  obtain ⟨h1, rfl⟩ := irng_get hi
  exact ⟨h1, fun x H2 ⟨e1, e2⟩ => ⟨e1, by rw [e2]; exact .int _⟩⟩
theorem bi_rng1 {n : Int} {p2 : Pos} (hm : X.mg "range" = none) (h : BE X a env (.ok (.int n))) (h1 : -(2 ^ 62) ≤ n) (h2 : n < 2 ^ 62) (hg : Gl X "range" := by rfl) (hs : starEach [a] X.env = [(false, eval a X.env)] := by rfl)
    (hs' : starEach (a :: []) X.env = (false, eval a X.env) :: starEach [] X.env := by rfl) : BI X tg (.Call (.Name "range" p2) [a] [] pos) env (irng 0 n.toNat) := by
  obtain ⟨t, p1, q1⟩ := ba_cons h ba_nil hs'
  refine ⟨_, pi_range1 hg hm p1 hs, fun F0 H0 F H σ S R r => ?_⟩
  refine q1 F0 H0 F H σ S _ fun vs F' H' g hd => ?_
  cases hd with
  | cons k1 k2 =>
    cases k2
    exact ⟨n, by rw [dp_int k1], h1, h2, r _ F' H' g walks_rng⟩
theorem bi_rng2 {n m : Int} {p2 : Pos} (hm : X.mg "range" = none) (h : BE X a env (.ok (.int n))) (h' : BE X b env (.ok (.int m))) (h1 : -(2 ^ 62) ≤ n ∧ n < 2 ^ 62 ∧ -(2 ^ 62) ≤ m ∧ m < 2 ^ 62) (hg : Gl X "range" := by rfl)
    (hs : starEach [a, b] X.env = [(false, eval a X.env), (false, eval b X.env)] := by rfl) (hs2 : starEach [b] X.env = [(false, eval b X.env)] := by rfl)
    (hs' : starEach (a :: [b]) X.env = (false, eval a X.env) :: starEach [b] X.env := by rfl) (hs3 : starEach (b :: []) X.env = (false, eval b X.env) :: starEach [] X.env := by rfl) : BI X tg (.Call (.Name "range" p2) [a, b] [] pos) env (irng n (m - n).toNat) := by
  obtain ⟨t, p1, q1⟩ := ba_cons h (ba_cons h' ba_nil hs3) hs'
  refine ⟨_, pi_range2 hg hm p1 hs hs2, fun F0 H0 F H σ S R r => ?_⟩
  refine q1 F0 H0 F H σ S _ fun vs F' H' g hd => ?_
  cases hd with
  | cons k1 k2 =>
    cases k2 with
    | cons k2 k3 =>
      cases k3
      exact ⟨n, m, by rw [dp_int k1, dp_int k2], h1, r _ F' H' g walks_rng⟩

/-! ### for -/
/-- a loop over the items that are left -/
inductive Loop (body : List Sl → Out → Prop) (P : List Sl → Prop) (j : Nat) : List D → List Sl → Out → Prop where
  | nil {env : List Sl} : Loop body P j [] env (.nx env)
  | nx {d : D} {ds : List D} {env env1 : List Sl} {out : Out} (h : body (env.set j (.v d)) (.nx env1)) (p : P env1) (r : Loop body P j ds env1 out) : Loop body P j (d :: ds) env out
  | ct {d : D} {ds : List D} {env env1 : List Sl} {out : Out} (h : body (env.set j (.v d)) (.ct env1)) (p : P env1) (r : Loop body P j ds env1 out) : Loop body P j (d :: ds) env out
  | bk {d : D} {ds : List D} {env env1 : List Sl} (h : body (env.set j (.v d)) (.bk env1)) : Loop body P j (d :: ds) env (.nx env1)
  | rt {d : D} {ds : List D} {env : List Sl} {r : Vr} (h : body (env.set j (.v d)) (.rt r)) : Loop body P j (d :: ds) env (.rt r)
  | er {d : D} {ds : List D} {env env1 : List Sl} {C : Addr} (h : body (env.set j (.v d)) (.er C env1)) : Loop body P j (d :: ds) env (.er C env1)
/-- every turn leaves all as it was -/
theorem loop_all {body : List Sl → Out → Prop} {P : List Sl → Prop} {j : Nat} {env : List Sl} (hP : P env) : ∀ ds : List D, (∀ d, d ∈ ds → body (env.set j (.v d)) (.nx env)) → Loop body P j ds env (.nx env)
  | [], _ => .nil
  | d :: r, h => .nx (h d List.mem_cons_self) hP (loop_all hP r fun d' hd => h d' (List.mem_cons_of_mem _ hd))
/-- .. up to one that ends it -/
theorem loop_til {body : List Sl → Out → Prop} {P : List Sl → Prop} {j : Nat} {env : List Sl} {out : Out} {es : List D} (hP : P env) : ∀ ds : List D, (∀ d, d ∈ ds → body (env.set j (.v d)) (.nx env)) → Loop body P j es env out → Loop body P j (ds ++ es) env out
  | [], _, k => k
  | d :: r, h, k => .nx (h d List.mem_cons_self) hP (loop_til hP r (fun d' hd => h d' (List.mem_cons_of_mem _ hd)) k)
theorem loop_til' {body : List Sl → Out → Prop} {P : List Sl → Prop} {j : Nat} {env : List Sl} {out : Out} {es all : List D} (ds : List D) (he : all = ds ++ es) (hP : P env) (h : ∀ d, d ∈ ds → body (env.set j (.v d)) (.nx env)) (k : Loop body P j es env out) : Loop body P j all env out := by
  rw [he]
  exact loop_til hP ds h k
/-- a fold -/
theorem loop_fold {α β : Type} {body : List Sl → Out → Prop} {P : List Sl → Prop} {j : Nat} (mk : β → List Sl) (g : α → D) (step : β → α → β) (I : β → Prop) (hP : ∀ s, P (mk s)) : ∀ (xs : List α) (s : β), I s → (∀ s x, x ∈ xs → I s → body ((mk s).set j (.v (g x))) (.nx (mk (step s x))) ∧ I (step s x)) →
    Loop body P j (xs.map g) (mk s) (.nx (mk (xs.foldl step s)))
  | [], _, _, _ => .nil
  | x :: r, s, hs, h => by
    obtain ⟨h1, h2⟩ := h s x List.mem_cons_self hs
    exact .nx h1 (hP _) (loop_fold mk g step I hP r (step s x) h2 fun s' x' hx hs' => h s' x' (List.mem_cons_of_mem _ hx) hs')
/-- the body as one reading -/
def tAny (X : Cx) (st : List Stmt) : TS := fun D σ H => ∃ t : TS, PSs X st t ∧ t D σ H
theorem tAny_ok {X : Cx} {st : List Stmt} : PSs X st (tAny X st) := ⟨fun pins s σ H D I ⟨t, h1, h2⟩ => h1.run pins s σ H D I h2⟩
theorem for_core {F0 H0 F H : Hp} {σ : L2.St} {D : Ends} {j : Nat} {body : List Stmt} {J : It} {P : List Sl → Prop} {Good : Hp → Hp → L2.St → Prop} (S : Sd X.K F0 H0 F H σ env) (wk : Walks X.K Good J ds) (lp : Loop (BSs X W T body) P j ds env out) (hP : P env) (hT : T j)
    (hg : ∀ F' H' σ' env', Ex F F' → Keep T σ σ' → Sd X.K F0 H0 F' H' σ' env' → P env' → Good F' H' σ') (p : Post X.K W T F0 H0 F σ D out) :
    ∃ Wm : Nat → Nat → L2.St → Hp → Prop, (∃ m, Wm 0 m σ H) ∧ ∀ i m σ H, Wm i m σ H →
      (J.stop i H ∧ D.nx σ H) ∨ (J.go i H ∧ ∃ N : L2.St → Hp → Prop, (∀ σ' H', N σ' H' → ∃ m', m' < m ∧ Wm (i + 1) m' σ' H') ∧ ∀ x H', J.yld i H x H' → gName j x σ H' fun σ2 H2 => tAny X body { D with nx := N, ct := N, bk := D.nx } σ2 H2) := by
  refine ⟨fun i m σ1 H1 => m = ds.length - i ∧ i ≤ ds.length ∧ ∃ env1 F1, Ex F F1 ∧ Keep T σ σ1 ∧ Sd X.K F0 H0 F1 H1 σ1 env1 ∧ P env1 ∧ Loop (BSs X W T body) P j (ds.drop i) env1 out, ⟨_, rfl, Nat.zero_le _, env, F, Same.refl _, Keep.refl, S, hP, lp⟩, ?_⟩
  rintro i m σ1 H1 ⟨rfl, hi, env1, F1, e1, k1, S1, P1, lp1⟩
  have G1 := hg F1 H1 σ1 env1 e1 k1 S1 P1
  by_cases hlt : i < ds.length
  · obtain ⟨d, hd⟩ : ∃ d, ds[i]? = some d := ⟨ds[i], List.getElem?_eq_getElem hlt⟩
    have hdr : ds.drop i = d :: ds.drop (i + 1) := by
      rw [List.drop_eq_getElem_cons hlt]
      rw [List.getElem?_eq_getElem hlt] at hd
      cases hd
      rfl
    rw [hdr] at lp1
    obtain ⟨g1, y1⟩ := wk.go F1 H1 σ1 i d G1 hd
    let N : L2.St → Hp → Prop := fun σ' H' => i + 1 ≤ ds.length ∧ ∃ env2 F2, Ex F F2 ∧ Keep T σ σ' ∧ Sd X.K F0 H0 F2 H' σ' env2 ∧ P env2 ∧ Loop (BSs X W T body) P j (ds.drop (i + 1)) env2 out
    refine .inr ⟨g1, N, fun σ' H' ⟨h1, h2⟩ => ⟨_, (by omega : ds.length - (i + 1) < ds.length - i), rfl, h1, h2⟩, fun x H2 y => ?_⟩
    obtain ⟨rfl, hx⟩ := y1 x H2 y
    have S2 := S1.set_v (i := j) hx
    have k2 : Keep T σ (σ1.set j (some x)) := k1.trans (Keep.set hT)
    show tAny X body _ (σ1.set j (some x)) H2
    cases lp1 with
    | nx h p1 r =>
      obtain ⟨t, t1, t2⟩ := h
      exact ⟨t, t1, t2 F0 H0 F1 H2 _ _ S2 fun F' H' σ' e' k' S' => ⟨hlt, _, F', e1.trans e', k2.trans k', S', p1, r⟩⟩
    | ct h p1 r =>
      obtain ⟨t, t1, t2⟩ := h
      exact ⟨t, t1, t2 F0 H0 F1 H2 _ _ S2 fun F' H' σ' e' k' S' => ⟨hlt, _, F', e1.trans e', k2.trans k', S', p1, r⟩⟩
    | bk h =>
      obtain ⟨t, t1, t2⟩ := h
      exact ⟨t, t1, t2 F0 H0 F1 H2 _ _ S2 fun F' H' σ' e' k' S' => p F' H' σ' (e1.trans e') (k2.trans k') S'⟩
    | rt h =>
      obtain ⟨t, t1, t2⟩ := h
      exact ⟨t, t1, t2 F0 H0 F1 H2 _ _ S2 p⟩
    | er h =>
      obtain ⟨t, t1, t2⟩ := h
      exact ⟨t, t1, t2 F0 H0 F1 H2 _ _ S2 fun F' H' σ' e' k' S' => p F' H' σ' (e1.trans e') (k2.trans k') S'⟩
  · have e : i = ds.length := by omega
    subst e
    rw [List.drop_length] at lp1
    cases lp1
    exact .inl ⟨wk.stop F1 H1 σ1 G1, p F1 H1 σ1 e1 k1 S1⟩
theorem bs_for (j : Nat) {x : Str} {p2 : Pos} {body : List Stmt} (hp : PassesOwn (model X.prog X.w) X.A X.env X.xe) (hc : X.calm = true) (nd : X.N.Nodup) (hI : BI X (.Name x p2) it env ds) (lp : Loop (BSs X W T body) (fun _ => True) j ds env out) (hj : X.N[j]? = some x := by rfl)
    (hx : Loc X.env.scope x := by first | exact Or.inl rfl | exact Or.inr rfl) (hs : ∀ x, foldedSetIterable it X.env x = pure x := by intro _; rfl) (hf : X.fn x = true ∨ X.env.scope.names.lookup x = some .local := by first | exact .inl rfl | exact .inr rfl | assumption) (hT : T j := by first | exact trivial | decide) :
    BS X W T (.For (.Name x p2) it body [] pos) env out := by
  obtain ⟨wi, w1, w2⟩ := hI
  refine ⟨_, ps_for hp hc w1 (pg_name nd hj hx hf) tAny_ok hs, fun F0 H0 F H σ D S p => ?_⟩
  refine w2 F0 H0 F H σ S _ fun J F' H' g wk => ?_
  exact for_core (S.grow g) wk lp trivial hT (fun F2 H2 σ2 env2 e2 k2 S2 _ => ⟨e2, S2.ex⟩) (p.fwd g.f Keep.refl)
/-- over an owned list in slot n, which stays meanwhile -/
theorem bs_forO (j n : Nat) {x y : Str} {p2 p3 : Pos} {body : List Stmt} (hp : PassesOwn (model X.prog X.w) X.A X.env X.xe) (hc : X.calm = true) (nd : X.N.Nodup) (hie : env[n]? = some (.own ds)) (lp : Loop (BSs X W (fun k => k ≠ n) body) (fun env => env[n]? = some (.own ds)) j ds env out) (hTn : ∀ k, k ≠ n → T k) (hjn : j ≠ n)
    (hj : X.N[j]? = some x := by rfl) (hx : Loc X.env.scope x := by first | exact Or.inl rfl | exact Or.inr rfl) (hs : ∀ x, foldedSetIterable (.Name y p3) X.env x = pure x := by intro _; rfl) (hf : X.fn x = true ∨ X.env.scope.names.lookup x = some .local := by first | exact .inl rfl | exact .inr rfl | assumption)
    (hN : X.N[n]? = some y := by rfl) (hv : Vis X.env.scope y := by first | exact Or.inl rfl | exact Or.inr (Or.inl rfl) | exact Or.inr (Or.inr rfl)) (hdd : (y == ("__debug__" : Str)) = false := by decide) (hcd : (y == ("__classdict__" : Str)) = false := by decide) :
    BS X W T (.For (.Name x p2) (.Name y p3) body [] pos) env out := by
  refine ⟨_, ps_for hp hc (pi_list (pe_var hN hv hdd hcd)) (pg_name nd hj hx hf) tAny_ok hs, fun F0 H0 F H σ D S p => ?_⟩
  obtain ⟨a, xs, e1, h0, hf', hh, hx'⟩ := S.ok n _ hie
  refine ⟨_, e1, a, rfl, ⟨xs, .inl (.inl hh)⟩, ?_⟩
  have wk : Walks X.K (fun F2 H2 σ2 => ∃ ys, H2 a = some (.lst ys) ∧ DpAll X.K F2 ys ds) (Itl X.K a) ds := by
    refine ⟨fun F2 H2 σ i d ⟨ys, g1, g2⟩ hi => ?_, fun F2 H2 σ ⟨ys, g1, g2⟩ => ⟨ys, .inl (.inl g1), by rw [g2.len]; exact Nat.le_refl _⟩⟩
    obtain ⟨v, hv, hd⟩ := g2.get hi
    refine ⟨⟨ys, v, .inl (.inl g1), hv⟩, fun x H3 ⟨e3, y⟩ => ⟨e3, ?_⟩⟩
    have := y ys (.inl (.inl g1))
    rw [hv] at this
    cases this
    exact hd
  refine for_core (T := fun k => k ≠ n) (P := fun env => env[n]? = some (.own ds)) S wk lp hie hjn (fun F2 H2 σ2 env2 e2 k2 S2 h2 => ?_) ?_
  · obtain ⟨a2, ys, q1, q2, q3, q4, q5⟩ := S2.ok n _ h2
    rw [k2 n (fun z => z rfl), e1] at q1
    cases q1
    exact ⟨ys, q4, q5⟩
  · cases out with
    | nx env => exact fun F' H' σ' e' k' S' => p F' H' σ' e' (k'.mono hTn) S'
    | rt r => exact p
    | bk env => exact fun F' H' σ' e' k' S' => p F' H' σ' e' (k'.mono hTn) S'
    | ct env => exact fun F' H' σ' e' k' S' => p F' H' σ' e' (k'.mono hTn) S'
    | er C env => exact fun F' H' σ' e' k' S' => p F' H' σ' e' (k'.mono hTn) S'

/-! ### while -/
inductive WLoop (test : List Sl → Bool → Prop) (body : List Sl → Out → Prop) : Nat → List Sl → Out → Prop where
  | stop {n : Nat} {env : List Sl} (h : test env false) : WLoop test body n env (.nx env)
  | nx {n : Nat} {env env1 : List Sl} {out : Out} (h : test env true) (b : body env (.nx env1)) (r : WLoop test body n env1 out) : WLoop test body (n + 1) env out
  | ct {n : Nat} {env env1 : List Sl} {out : Out} (h : test env true) (b : body env (.ct env1)) (r : WLoop test body n env1 out) : WLoop test body (n + 1) env out
  | bk {n : Nat} {env env1 : List Sl} (h : test env true) (b : body env (.bk env1)) : WLoop test body n env (.nx env1)
  | rt {n : Nat} {env : List Sl} {r : Vr} (h : test env true) (b : body env (.rt r)) : WLoop test body n env (.rt r)
  | er {n : Nat} {env env1 : List Sl} {C : Addr} (h : test env true) (b : body env (.er C env1)) : WLoop test body n env (.er C env1)
theorem bs_while {c : Expr} {body : List Stmt} {n : Nat} (hp : PassesOwn (model X.prog X.w) X.A X.env X.xe) (lp : WLoop (BT X c) (BSs X W T body) n env out) : BS X W T (.While c body [] pos) env out := by
  have hc : PT X c (fun σ H Q => ∃ t : TT, PT X c t ∧ t σ H Q) := ⟨fun pins s σ H Q I ⟨t, h1, h2⟩ => h1.run pins s σ H Q I h2⟩
  refine ⟨_, ps_while hp hc tAny_ok, fun F0 H0 F H σ D S p => ?_⟩
  refine ⟨fun m σ1 H1 => ∃ env1 F1, Ex F F1 ∧ Keep T σ σ1 ∧ Sd X.K F0 H0 F1 H1 σ1 env1 ∧ WLoop (BT X c) (BSs X W T body) m env1 out, ⟨n, env, F, Same.refl _, Keep.refl, S, lp⟩, ?_⟩
  rintro m σ1 H1 ⟨env1, F1, e1, k1, S1, lp1⟩
  cases lp1 with
  | stop h =>
    obtain ⟨t, t1, t2⟩ := h
    refine ⟨t, t1, t2 F0 H0 F1 H1 σ1 S1 _ fun F' H' g => iteF ?_⟩
    exact p F' H' σ1 (e1.trans g.f) k1 (S1.grow g)
  | @nx n' _ env2 _ h b r =>
    obtain ⟨t, t1, t2⟩ := h
    obtain ⟨u, u1, u2⟩ := b
    refine ⟨t, t1, t2 F0 H0 F1 H1 σ1 S1 _ fun F' H' g => iteT ⟨fun σ' H' => ∃ F2, Ex F F2 ∧ Keep T σ σ' ∧ Sd X.K F0 H0 F2 H' σ' env2, fun σ' H' ⟨F2, z1, z2, z3⟩ => ⟨n', Nat.lt_succ_self _, env2, F2, z1, z2, z3, r⟩, u, u1, ?_⟩⟩
    exact u2 F0 H0 F' H' σ1 _ (S1.grow g) fun F2 H2 σ2 e2 k2 S2 => ⟨F2, (e1.trans g.f).trans e2, k1.trans k2, S2⟩
  | @ct n' _ env2 _ h b r =>
    obtain ⟨t, t1, t2⟩ := h
    obtain ⟨u, u1, u2⟩ := b
    refine ⟨t, t1, t2 F0 H0 F1 H1 σ1 S1 _ fun F' H' g => iteT ⟨fun σ' H' => ∃ F2, Ex F F2 ∧ Keep T σ σ' ∧ Sd X.K F0 H0 F2 H' σ' env2, fun σ' H' ⟨F2, z1, z2, z3⟩ => ⟨n', Nat.lt_succ_self _, env2, F2, z1, z2, z3, r⟩, u, u1, ?_⟩⟩
    exact u2 F0 H0 F' H' σ1 _ (S1.grow g) fun F2 H2 σ2 e2 k2 S2 => ⟨F2, (e1.trans g.f).trans e2, k1.trans k2, S2⟩
  | bk h b =>
    obtain ⟨t, t1, t2⟩ := h
    obtain ⟨u, u1, u2⟩ := b
    refine ⟨t, t1, t2 F0 H0 F1 H1 σ1 S1 _ fun F' H' g => iteT ⟨fun _ _ => False, fun _ _ z => z.elim, u, u1, ?_⟩⟩
    exact u2 F0 H0 F' H' σ1 _ (S1.grow g) fun F2 H2 σ2 e2 k2 S2 => p F2 H2 σ2 ((e1.trans g.f).trans e2) (k1.trans k2) S2
  | rt h b =>
    obtain ⟨t, t1, t2⟩ := h
    obtain ⟨u, u1, u2⟩ := b
    refine ⟨t, t1, t2 F0 H0 F1 H1 σ1 S1 _ fun F' H' g => iteT ⟨fun _ _ => False, fun _ _ z => z.elim, u, u1, ?_⟩⟩
    exact u2 F0 H0 F' H' σ1 _ (S1.grow g) p
  | er h b =>
    obtain ⟨t, t1, t2⟩ := h
    obtain ⟨u, u1, u2⟩ := b
    refine ⟨t, t1, t2 F0 H0 F1 H1 σ1 S1 _ fun F' H' g => iteT ⟨fun _ _ => False, fun _ _ z => z.elim, u, u1, ?_⟩⟩
    exact u2 F0 H0 F' H' σ1 _ (S1.grow g) fun F2 H2 σ2 e2 k2 S2 => p F2 H2 σ2 ((e1.trans g.f).trans e2) (k1.trans k2) S2

theorem bs_whileE {c : Expr} {body : List Stmt} (hp : PassesOwn (model X.prog X.w) X.A X.env X.xe) (lp : ∃ n, WLoop (BT X c) (BSs X W T body) n env out) : BS X W T (.While c body [] pos) env out := by
  obtain ⟨n, lp⟩ := lp
  exact bs_while hp lp

/-! ### comprehensions -/
inductive Comp (test : List Sl → Bool → Prop) (elt : List Sl → D → Prop) (env : List Sl) (i : Nat) : List D → List D → Prop where
  | nil : Comp test elt env i [] []
  | yes {d d' : D} {ds rs : List D} (h : test (env.set i (.v d)) true) (e : elt (env.set i (.v d)) d') (r : Comp test elt env i ds rs) : Comp test elt env i (d :: ds) (d' :: rs)
  | no {d : D} {ds rs : List D} (h : test (env.set i (.v d)) false) (r : Comp test elt env i ds rs) : Comp test elt env i (d :: ds) rs
/-- the context of a comprehension's block -/
abbrev blkX (X : Cx) (scope : Scope) (s : Shared) (H : Hp) (C : Addr) (cl : List (Str × Addr)) (fp : List Addr) : Cx := X.blk s H scope (compEnvC scope cl C X.env) fp
def BIfs (X : Cx) (ifs : List Expr) (env : List Sl) (b : Bool) : Prop :=
  ∃ t : TT, PTs X ifs t ∧ ∀ (F0 H0 F H : Hp) (σ : L2.St), Sd X.K F0 H0 F H σ env → ∀ Q : Bool → Hp → Prop, (∀ F' H', Gr F H F' H' → Q b H') → t σ H Q
theorem bif_nil : BIfs X [] env true := ⟨_, pts_nil, fun _ _ F H _ S _ q => q F H (Gr.refl S.ex)⟩
theorem bif_one {c : Expr} {b : Bool} (h : BT X c env b) : BIfs X [c] env b := by
  obtain ⟨t, h1, h2⟩ := h
  exact ⟨t, pts_one h1, h2⟩
def tAnyT (X : Cx) (scope : Scope) (ifs : List Expr) : TT := fun σ H Q => ∀ (s : Shared) (H1 : Hp) (C : Addr) (cl : List (Str × Addr)) (fp : List Addr), ∃ t : TT, PTs (blkX X scope s H1 C cl fp) ifs t ∧ t σ H Q
def tAnyE (X : Cx) (scope : Scope) (e : Expr) : TE := fun σ H Q => ∀ (s : Shared) (H1 : Hp) (C : Addr) (cl : List (Str × Addr)) (fp : List Addr), ∃ t : TE, PE (blkX X scope s H1 C cl fp) e t ∧ t σ H Q
theorem comp_core {F0 H0 F H : Hp} {σ : L2.St} {i : Nat} {J : It} {Good : Hp → Hp → L2.St → Prop} {scope : Scope} {ifs : List Expr} {elt : Expr} {rs : List D} {Q : VK} (S : Sd X.K F0 H0 F H σ env) (hi : i < env.length) (wk : Walks X.K Good J ds)
    (cp : Comp (fun env b => ∀ s H C cl fp, BIfs (blkX X scope s H C cl fp) ifs env b) (fun env d => ∀ s H C cl fp, BE (blkX X scope s H C cl fp) elt env (.ok d)) env i ds rs) (hz : rs.length ≤ sizeLine)
    (hg : ∀ F' H' σ', Gr F H F' H' → Good F' H' σ') (q : ∀ p xs F' H', Gr F H F' H' → H p = none → F' p = none → H' p = some (.lst xs) → DpAll X.K F' xs rs → Q (.ref p) H') :
    ∀ Dl, H Dl = none → ∃ Wm : Nat → Nat → Hp → Prop, (∃ m, Wm 0 m (upd H Dl (.lst []))) ∧ ∀ k m H, Wm k m H →
      (J.stop k H ∧ Q (.ref Dl) H) ∨ (J.go k H ∧ ∃ Nx : Hp → Prop, (∀ H', Nx H' → ∃ m', m' < m ∧ Wm (k + 1) m' H') ∧ ∀ x H', J.yld k H x H' → gName i x (wipe σ [i]) H' fun σ2 H2 => wipe σ2 [i] = wipe σ [i] ∧ tAnyT X scope ifs σ2 H2 fun b H3 =>
        if b = true then tAnyE X scope elt σ2 H3 fun y H4 => ∃ acc, H4 Dl = some (.lst acc) ∧ acc.length < sizeLine ∧ Nx (upd H4 Dl (.lst (acc ++ [y]))) else Nx H3) := by
  intro Dl hD
  have hDf : F Dl = none := S.ex.free hD
  let Pv : Nat → Hp → Prop := fun k H' => ∃ F' acc ys r2, Gr F H F' H' ∧ F' Dl = none ∧ H' Dl = some (.lst acc) ∧ DpAll X.K F' acc ys ∧ ys ++ r2 = rs ∧
    Comp (fun env b => ∀ s H C cl fp, BIfs (blkX X scope s H C cl fp) ifs env b) (fun env d => ∀ s H C cl fp, BE (blkX X scope s H C cl fp) elt env (.ok d)) env i (ds.drop k) r2
  refine ⟨fun k m H' => m = ds.length - k ∧ k ≤ ds.length ∧ Pv k H', ⟨_, rfl, Nat.zero_le _, F, [], [], rs, gr_newH S.ex hD, hDf, upd_same, .nil, rfl, cp⟩, ?_⟩
  rintro k m H1 ⟨rfl, hk, F1, acc, ys, r2, g1, f1, a1, d1, er, cp1⟩
  have G1 := hg F1 H1 σ g1
  by_cases hlt : k < ds.length
  · obtain ⟨d, hd⟩ : ∃ d, ds[k]? = some d := ⟨ds[k], List.getElem?_eq_getElem hlt⟩
    have hdr : ds.drop k = d :: ds.drop (k + 1) := by
      rw [List.drop_eq_getElem_cons hlt]
      rw [List.getElem?_eq_getElem hlt] at hd
      cases hd
      rfl
    rw [hdr] at cp1
    obtain ⟨go, y1⟩ := wk.go F1 H1 σ k d G1 hd
    refine .inr ⟨go, fun H' => k + 1 ≤ ds.length ∧ Pv (k + 1) H', fun H' ⟨h1, h2⟩ => ⟨_, (by omega : ds.length - (k + 1) < ds.length - k), rfl, h1, h2⟩, fun x H2 y => ?_⟩
    obtain ⟨rfl, hx⟩ := y1 x H2 y
    have eσ : (wipe σ [i]).set i (some x) = σ.set i (some x) := by
      show (σ.set i none).set i (some x) = _
      rw [List.set_set]
    show wipe ((wipe σ [i]).set i (some x)) [i] = wipe σ [i] ∧ tAnyT X scope ifs ((wipe σ [i]).set i (some x)) H2 _
    rw [eσ]
    refine ⟨by show (σ.set i (some x)).set i none = σ.set i none; rw [List.set_set], ?_⟩
    have S2 : Sd X.K F0 H0 F1 H2 (σ.set i (some x)) (env.set i (.v d)) := (S.grow g1).set_v hx
    cases cp1 with
    | @yes _ d' _ r3 h e r =>
      intro s Ha C cl fp
      obtain ⟨t, t1, t2⟩ := h s Ha C cl fp
      refine ⟨t, t1, t2 F0 H0 F1 H2 _ S2 _ fun F3 H3 g3 => iteT ?_⟩
      intro s Hb C cl fp
      obtain ⟨u, u1, u2⟩ := e s Hb C cl fp
      refine ⟨u, u1, u2 F0 H0 F3 H3 _ (S2.grow g3) _ fun v F4 H4 g4 hv => ?_⟩
      have g34 := g3.trans g4
      have hh := g34.h _ _ a1
      have f4 : F4 Dl = none := own_stays g34 f1 a1 (fun _ z => nomatch z)
      have hlen : ys.length + 1 ≤ rs.length := by rw [← er, List.length_append, List.length_cons]; omega
      refine ⟨acc, hh, by rw [d1.len]; omega, hlt, F4, acc ++ [v], ys ++ [d'], r3, (g1.trans g34).mut hD f4, f4, upd_same, (dpAll_mono g34.f d1).append (.cons hv .nil), by rw [← er, List.append_assoc]; rfl, r⟩
    | no h r =>
      intro s Ha C cl fp
      obtain ⟨t, t1, t2⟩ := h s Ha C cl fp
      refine ⟨t, t1, t2 F0 H0 F1 H2 _ S2 _ fun F3 H3 g3 => iteF ?_⟩
      exact ⟨hlt, F3, acc, ys, r2, g1.trans g3, own_stays g3 f1 a1 (fun _ z => nomatch z), g3.h _ _ a1, dpAll_mono g3.f d1, er, r⟩
  · have e : k = ds.length := by omega
    subst e
    rw [List.drop_length] at cp1
    cases cp1
    rw [List.append_nil] at er
    subst er
    exact .inl ⟨wk.stop F1 H1 σ G1, q Dl acc F1 H1 g1 hD f1 a1 d1⟩
theorem be_comp (i : Nat) {N : List Str} {sc : Scope} {x : Str} {p2 : Pos} {elt : Expr} {ifs : List Expr} {scope : Scope} {rs : List D} (hc : X.calm = true) (nd : X.N.Nodup) (hI : BI X (.Name x p2) it env ds) (hb : blkC N sc scope [(x, i)] = true) (hil : i < env.length)
    (cp : Comp (fun env b => ∀ s H C cl fp, BIfs (blkX X scope s H C cl fp) ifs env b) (fun env d => ∀ s H C cl fp, BE (blkX X scope s H C cl fp) elt env (.ok d)) env i ds rs) (hz : rs.length ≤ sizeLine) (hN : X.N[i]? = some x := by rfl) (hx : ∀ (cl : List (Str × Addr)) (C : Addr), Loc (compEnvC scope cl C X.env).scope x := by intro _ _; first | exact Or.inl rfl | exact Or.inr rfl)
    (hf : ∀ (cl : List (Str × Addr)) (C : Addr), (scope.names.lookup x == some .cell) = true ∨ (compEnvC scope cl C X.env).scope.names.lookup x = some .local := by intro _ _; first | exact .inl rfl | exact .inr rfl) (hs : ∀ x, foldedSetIterable it X.env x = pure x := by intro _; rfl) (hNe : X.N = N := by rfl) (hsc : X.env.scope = sc := by rfl) :
    BE X (.ListComp elt [⟨.Name x p2, it, ifs, 0⟩] scope pos) env (.fr rs) := by
  obtain ⟨wi, w1, w2⟩ := hI
  refine ⟨_, pe_lc (own := [(x, i)]) (g := gName i) (tt := tAnyT X scope ifs) (te := tAnyE X scope elt) hc nd w1 (by rw [hNe, hsc]; exact blkOk_by hb) (fun s H C cl fp => pg_name nd hN (hx cl C) (hf cl C))
    (fun s H C cl fp => ⟨fun pins s1 σ H1 Q I h => by obtain ⟨t, h1, h2⟩ := h s H C cl fp; exact h1.run pins s1 σ H1 Q I h2⟩) (fun s H C cl fp => ⟨fun pins s1 σ H1 Q I h => by obtain ⟨t, h1, h2⟩ := h s H C cl fp; exact h1.run pins s1 σ H1 Q I h2⟩) hs, fun F0 H0 F H σ S Q q => ?_⟩
  refine w2 F0 H0 F H σ S _ fun J F' H' g wk => ?_
  exact comp_core (S.grow g) hil wk cp hz (fun F2 H2 σ2 g2 => ⟨g2.f, g2.s⟩) fun p xs F2 H2 g2 h1 h2 h3 h4 => q p xs F2 H2 (g.trans g2) (g.h.free h1) h2 h3 h4
/-- y = [..] -/
theorem bs_comp (k i : Nat) {N : List Str} {sc : Scope} {x y : Str} {p2 py : Pos} {elt : Expr} {ifs : List Expr} {scope : Scope} {rs : List D} {cpos : Pos} (hc : X.calm = true) (nd : X.N.Nodup) (hI : BI X (.Name x p2) it env ds) (hb : blkC N sc scope [(x, i)] = true) (hil : i < env.length)
    (cp : Comp (fun env b => ∀ s H C cl fp, BIfs (blkX X scope s H C cl fp) ifs env b) (fun env d => ∀ s H C cl fp, BE (blkX X scope s H C cl fp) elt env (.ok d)) env i ds rs) (hz : rs.length ≤ sizeLine) (hN : X.N[i]? = some x := by rfl) (hx : ∀ (cl : List (Str × Addr)) (C : Addr), Loc (compEnvC scope cl C X.env).scope x := by intro _ _; first | exact Or.inl rfl | exact Or.inr rfl)
    (hf : ∀ (cl : List (Str × Addr)) (C : Addr), (scope.names.lookup x == some .cell) = true ∨ (compEnvC scope cl C X.env).scope.names.lookup x = some .local := by intro _ _; first | exact .inl rfl | exact .inr rfl) (hs : ∀ x, foldedSetIterable it X.env x = pure x := by intro _; rfl)
    (hy : X.N[k]? = some y := by rfl) (hyl : X.env.scope.names.lookup y = some .local := by rfl) (hsw : swapsWith (.ListComp elt [⟨.Name x p2, it, ifs, 0⟩] scope cpos) (some (.Name y py)) pos.line X.env = pure true := by exact sw_true rfl rfl rfl (by decide +kernel)) (hT : T k := by first | exact trivial | decide) (hNe : X.N = N := by rfl) (hsc : X.env.scope = sc := by rfl) :
    BS X W T (.Assign [.Name y py] (.ListComp elt [⟨.Name x p2, it, ifs, 0⟩] scope cpos) pos) env (.nx (env.set k (.own rs))) := by
  obtain ⟨wi, w1, w2⟩ := hI
  refine ⟨_, ps_setLc (own := [(x, i)]) (g := gName i) (tt := tAnyT X scope ifs) (te := tAnyE X scope elt) hc nd hy hyl hsw w1 (by rw [hNe, hsc]; exact blkOk_by hb) (fun s H C cl fp => pg_name nd hN (hx cl C) (hf cl C))
    (fun s H C cl fp => ⟨fun pins s1 σ H1 Q I h => by obtain ⟨t, h1, h2⟩ := h s H C cl fp; exact h1.run pins s1 σ H1 Q I h2⟩) (fun s H C cl fp => ⟨fun pins s1 σ H1 Q I h => by obtain ⟨t, h1, h2⟩ := h s H C cl fp; exact h1.run pins s1 σ H1 Q I h2⟩) hs, fun F0 H0 F H σ D S p => ?_⟩
  refine w2 F0 H0 F H σ S _ fun J F' H' g wk => ?_
  exact comp_core (Q := fun x H1 => gName k x σ H1 D.nx) (S.grow g) hil wk cp hz (fun F2 H2 σ2 g2 => ⟨g2.f, g2.s⟩) fun q xs F2 H2 g2 h1 h2 h3 h4 =>
    p F2 H2 _ (g.trans g2).f (Keep.set hT) (S.set_new (g.trans g2) (g.h.free h1) rfl ⟨q, xs, rfl, S.gr.h.free (g.h.free h1), h2, h3, h4⟩)
end
end PD
/-! PD: defs, calls, raise, try -/
namespace PD
open PySem L2 PySem.Spec PyProof.Rows

inductive Rs where
  | ok (d : D)
  | fr (ds : List D)
  | tf (ds es : List D)
  | er (C : Addr)
def PostR (K : PySem.W.Frag) (F H : Hp) (Q : VK) (E : XK) : Rs → Prop
  | .ok d => PostV K F H Q (.ok d)
  | .fr ds => PostV K F H Q (.fr ds)
  | .tf ds es => PostV K F H Q (.tf ds es)
  | .er C => ∀ F' H', Gr F H F' H' → E (.ref C) none H'
/-- a def's promise: G tells what comes of which arguments -/
def spD (K : PySem.W.Frag) (G : List D → Rs → Prop) : Sp := fun vs H Q E => ∃ F args r, Ex F H ∧ DpAll K F vs args ∧ G args r ∧ PostR K F H Q E r
inductive OutR : Rs → Out → Prop where
  | ok {d : D} : OutR (.ok d) (.rt (.ok d))
  | lst {ds : List D} : OutR (.ok (.list ds)) (.rt (.fr ds))
  | fr {ds : List D} : OutR (.fr ds) (.rt (.fr ds))
  | tf {ds es : List D} : OutR (.tf ds es) (.rt (.tf ds es))
  | non {env : List Sl} : OutR (.ok .none) (.nx env)
  | er {C : Addr} {env : List Sl} : OutR (.er C) (.er C env)
/-- the slots at the entry -/
def st0 (N : List Str) (args : List D) : List Sl := args.map Sl.v ++ List.replicate (N.length - args.length) Sl.no
theorem sd_start {K : PySem.W.Frag} {F H : Hp} {N : List Str} {vs : List V} {args : List D} (s : Ex F H) (h : DpAll K F vs args) : Sd K F H F H (L2.start N vs) (st0 N args) := by
  have hl := h.len
  refine ⟨Gr.refl s, by unfold L2.start st0; simp [hl], fun i x e => ?_, fun i j x y a e1 e2 h1 h2 e3 e4 => ?_⟩
  · unfold st0 at e
    unfold L2.start
    by_cases hi : i < args.length
    · rw [List.getElem?_append_left (by simpa using hi), List.getElem?_map] at e
      rw [List.getElem?_append_left (by simpa [hl] using hi), List.getElem?_map]
      cases q : args[i]? with
      | none => rw [q] at e; cases e
      | some d =>
        rw [q] at e
        cases e
        obtain ⟨v, hv, hd⟩ := h.get q
        exact ⟨v, by rw [hv]; rfl, hd⟩
    · rw [List.getElem?_append_right (by simpa using hi), List.getElem?_replicate] at e
      split at e
      · cases e
        trivial
      · cases e
  · unfold st0 at e1
    by_cases hi : i < args.length
    · rw [List.getElem?_append_left (by simpa using hi), List.getElem?_map] at e1
      cases q : args[i]? with
      | none => rw [q] at e1; cases e1
      | some d =>
        rw [q] at e1
        cases e1
        cases h1
    · rw [List.getElem?_append_right (by simpa using hi), List.getElem?_replicate] at e1
      split at e1
      · cases e1
        cases h1
      · cases e1
/-- what a def is worth to its callers -/
structure Dn (P : Program) (w : World) (K : PySem.W.Frag) (mg : Str → Option Value) (base : Heap) (k : Nat) (x : Str) (G : List D → Rs → Prop) : Prop where
  ex : ∃ (f : Addr) (fd : FuncData) (ps : List Str), FnOk P w K mg base (L2.CX P w) k f fd ps (spD K G) ∧ mg x = some (.ref f) ∧ PySem.W.keepIn K (.ref f) = true ∧ Binds K fd ps []
section
variable {P : Program} {w : World} {K : PySem.W.Frag} {mg : Str → Option Value} {base : Heap}
theorem Dn.mono {j k : Nat} {x : Str} {G : List D → Rs → Prop} (h : Dn P w K mg base j x G) (hk : j ≤ k) : Dn P w K mg base k x G := by
  obtain ⟨f, fd, ps, F, h1⟩ := h.ex
  exact ⟨f, fd, ps, F.mono hk, h1⟩
/-- a weaker promise -/
theorem Dn.imp {k : Nat} {x : Str} {G G' : List D → Rs → Prop} (h : Dn P w K mg base k x G) (hg : ∀ a r, G' a r → G a r) : Dn P w K mg base k x G' := by
  obtain ⟨f, fd, ps, F, h1⟩ := h.ex
  exact ⟨f, fd, ps, F.imp fun vs H Q E ⟨F', args, r, a, b, c, d⟩ => ⟨F', args, r, a, b, hg _ _ c, d⟩, h1⟩
theorem ok_def {x qual : Str} {st : Stmt} {f : Addr} {fd : FuncData} {N ps : List Str} {k : Nat} {G : List D → Rs → Prop} (F : Fun K x qual st f fd) (S : FnScope N ps (defScope st)) (len : ∀ args r, G args r → args.length = ps.length)
    (hbody : ∀ (cdv : Value) (A : Around) (outer : List Env) (s : Shared) (H : Hp) (E : XK), Cz (cxOf (L2.CX P w) P w K mg base N qual (defScope st) f cdv A outer s H E) (fun cls d _ H => E cls d H) k → ∀ args r, G args r →
      ∃ out, OutR r out ∧ BSs (cxOf (L2.CX P w) P w K mg base N qual (defScope st) f cdv A outer s H E) (fun cls d _ H => E cls d H) TAll (defBody st) (st0 N args) out) : FnOk P w K mg base (L2.CX P w) (k + 1) f fd ps (spD K G) := by
  refine F.okX S (fun vs H Q E h => ?_) (fun cdv A outer s H vs Q E hr h => ?_)
  · obtain ⟨F', args, r, _, hd, hg, _⟩ := h
    rw [hd.len]
    exact len args r hg
  · obtain ⟨F', args, r, ex, hd, hg, post⟩ := h
    obtain ⟨out, ho, t, h1, h2⟩ := hbody cdv A outer s H E ⟨passes_of rfl, takes_of rfl rfl rfl rfl, hr, rfl, S.nd⟩ args r hg
    refine ⟨t, h1, h2 F' H F' H _ _ (sd_start ex hd) ?_⟩
    cases ho with
    | ok => exact post
    | lst => exact PostV.list post
    | fr => exact post
    | tf => exact post
    | non => exact fun F2 H2 σ2 _ _ S2 => post .non F2 H2 S2.gr .non
    | er => exact fun F2 H2 σ2 _ _ S2 => post F2 H2 S2.gr
theorem dn_def {x qual : Str} {st : Stmt} {f : Addr} {fd : FuncData} {N ps : List Str} {k : Nat} {G : List D → Rs → Prop} (F : Fun K x qual st f fd) (S : FnScope N ps (defScope st)) (hm : mg x = some (.ref f)) (b : Binds K fd ps []) (len : ∀ args r, G args r → args.length = ps.length)
    (hbody : ∀ (cdv : Value) (A : Around) (outer : List Env) (s : Shared) (H : Hp) (E : XK), Cz (cxOf (L2.CX P w) P w K mg base N qual (defScope st) f cdv A outer s H E) (fun cls d _ H => E cls d H) k → ∀ args r, G args r →
      ∃ out, OutR r out ∧ BSs (cxOf (L2.CX P w) P w K mg base N qual (defScope st) f cdv A outer s H E) (fun cls d _ H => E cls d H) TAll (defBody st) (st0 N args) out) : Dn P w K mg base (k + 1) x G :=
  ⟨f, fd, ps, ok_def F S len hbody, hm, F.kp, b⟩
end

/-! ### calls -/
section
variable {X : Cx} {W : WX} {T : Nat → Prop} {env env1 : List Sl} {e a b : Expr} {es : List Expr} {d : D} {ds : List D} {pos p2 : Pos} {out : Out} {k k' : Nat} {x : Str} {G : List D → Rs → Prop} {C : Addr}
theorem be_call (h : Dn X.prog X.w X.K X.mg X.base k x G) (hr : Room k' X.A) (hk : k ≤ k') (ha : BA X (e :: es) env ds) (hG : G ds (.ok d)) (hg : Gl X x := by rfl) (hdb : (x == ("__debug__" : Str)) = false := by decide)
    (he : starEach (e :: es) X.env = (false, eval e X.env) :: starEach es X.env := by rfl) (hpl : (backTo pos (starEach es X.env)).any (·.1) = false := by rfl) : BE X (.Call (.Name x p2) (e :: es) [] pos) env (.ok d) := by
  obtain ⟨f, fd, ps, F, hm, kp, hb⟩ := h.ex
  obtain ⟨t, h1, h2⟩ := ha
  refine ⟨_, pe_call F (hr.mono hk) hg hm kp hb .nil passL h1 hdb he hpl, fun F0 H0 F H σ S Q q => ?_⟩
  refine h2 F0 H0 F H σ S _ fun vs F' H' g hd => ⟨F', ds, .ok d, g.s, by rw [List.append_nil]; exact hd, hG, PostV.back (o := .ok d) g q⟩
theorem be_callF (h : Dn X.prog X.w X.K X.mg X.base k x G) (hr : Room k' X.A) (hk : k ≤ k') {rs : List D} (ha : BA X (e :: es) env ds) (hG : G ds (.fr rs)) (hg : Gl X x := by rfl) (hdb : (x == ("__debug__" : Str)) = false := by decide)
    (he : starEach (e :: es) X.env = (false, eval e X.env) :: starEach es X.env := by rfl) (hpl : (backTo pos (starEach es X.env)).any (·.1) = false := by rfl) : BE X (.Call (.Name x p2) (e :: es) [] pos) env (.fr rs) := by
  obtain ⟨f, fd, ps, F, hm, kp, hb⟩ := h.ex
  obtain ⟨t, h1, h2⟩ := ha
  refine ⟨_, pe_call F (hr.mono hk) hg hm kp hb .nil passL h1 hdb he hpl, fun F0 H0 F H σ S Q q => ?_⟩
  refine h2 F0 H0 F H σ S _ fun vs F' H' g hd => ⟨F', ds, .fr rs, g.s, by rw [List.append_nil]; exact hd, hG, PostV.back (o := .fr rs) g q⟩
theorem be_callTf (h : Dn X.prog X.w X.K X.mg X.base k x G) (hr : Room k' X.A) (hk : k ≤ k') {rs qs : List D} (ha : BA X (e :: es) env ds) (hG : G ds (.tf rs qs)) (hg : Gl X x := by rfl) (hdb : (x == ("__debug__" : Str)) = false := by decide)
    (he : starEach (e :: es) X.env = (false, eval e X.env) :: starEach es X.env := by rfl) (hpl : (backTo pos (starEach es X.env)).any (·.1) = false := by rfl) : BE X (.Call (.Name x p2) (e :: es) [] pos) env (.tf rs qs) := by
  obtain ⟨f, fd, ps, F, hm, kp, hb⟩ := h.ex
  obtain ⟨t, h1, h2⟩ := ha
  refine ⟨_, pe_call F (hr.mono hk) hg hm kp hb .nil passL h1 hdb he hpl, fun F0 H0 F H σ S Q q => ?_⟩
  refine h2 F0 H0 F H σ S _ fun vs F' H' g hd => ⟨F', ds, .tf rs qs, g.s, by rw [List.append_nil]; exact hd, hG, PostV.back (o := .tf rs qs) g q⟩
/-- data without a list -/
def flatD : D → Prop
  | .tuple ds => ∀ d, d ∈ ds → scV d ≠ none
  | d => scV d ≠ none
theorem dp_sc {K : PySem.W.Frag} {F F' : Hp} {v : V} {d : D} (h : Dp K F v d) (hs : scV d ≠ none) : Dp K F' v d := by
  cases h with
  | non => exact .non
  | bl b => exact .bl b
  | int i => exact .int i
  | str x => exact .str x
  | lst _ _ => exact absurd rfl hs
  | tup _ _ => exact absurd rfl hs
  | dct _ => exact absurd rfl hs
theorem dpAll_sc {K : PySem.W.Frag} {F F' : Hp} : ∀ {vs : List V} {ds : List D}, DpAll K F vs ds → (∀ d, d ∈ ds → scV d ≠ none) → DpAll K F' vs ds
  | _, _, .nil, _ => .nil
  | _, _, .cons h r, hs => .cons (dp_sc h (hs _ List.mem_cons_self)) (dpAll_sc r fun d hd => hs d (List.mem_cons_of_mem _ hd))
theorem dp_flat {K : PySem.W.Frag} {F F2 H2 : Hp} {v : V} {d : D} (h : Dp K F2 v d) (s2 : Ex F2 H2) (s : Ex F H2) (hf : flatD d) : Dp K (satT F H2) v d := by
  cases h with
  | non => exact .non
  | bl b => exact .bl b
  | int i => exact .int i
  | str x => exact .str x
  | lst _ _ => exact absurd rfl (show scV (.list _) ≠ none from hf)
  | tup h r => exact .tup (satT_tup s (s2 _ _ h)) (dpAll_sc r hf)
  | dct _ => exact absurd rfl (show scV (.dict []) ≠ none from hf)
/-- a call whose arguments are read here and now; the answer bears no list -/
theorem be_callR (h : Dn X.prog X.w X.K X.mg X.base k x G) (hr : Room k' X.A) (hk : k ≤ k') (ha : BB X (e :: es) env ds) (hG : G ds (.ok d)) (hfl : flatD d) (hg : Gl X x := by rfl) (hdb : (x == ("__debug__" : Str)) = false := by decide)
    (he : starEach (e :: es) X.env = (false, eval e X.env) :: starEach es X.env := by rfl) (hpl : (backTo pos (starEach es X.env)).any (·.1) = false := by rfl) : BE X (.Call (.Name x p2) (e :: es) [] pos) env (.ok d) := by
  obtain ⟨f, fd, ps, F, hm, kp, hb⟩ := h.ex
  obtain ⟨t, h1, h2⟩ := ha
  refine ⟨_, pe_call F (hr.mono hk) hg hm kp hb .nil passL h1 hdb he hpl, fun F0 H0 F H σ S Q q => ?_⟩
  refine h2 F0 H0 F H σ S _ fun vs F' H' g hd => ⟨H', ds, .ok d, Same.refl _, by rw [List.append_nil]; exact hd, hG, fun v F2 H2 g2 hv => ?_⟩
  have s : Ex F' H2 := g.s.trans g2.h
  have g3 : Gr F' H' F' H2 := ⟨Same.refl _, g2.h, s, fun a o h0 h1 => by rw [h0] at h1; cases h1⟩
  exact q v (satT F' H2) H2 ((g.trans g3).trans (satT_gr s)) (dp_flat hv g2.s s hfl)
/-- a call that raises -/
theorem bx_call (h : Dn X.prog X.w X.K X.mg X.base k x G) (tk : Takes X W) (hr : Room k' X.A) (hk : k ≤ k') (ha : BA X (e :: es) env ds) (hG : G ds (.er C)) (hg : Gl X x := by rfl) (hdb : (x == ("__debug__" : Str)) = false := by decide)
    (he : starEach (e :: es) X.env = (false, eval e X.env) :: starEach es X.env := by rfl) (hpl : (backTo pos (starEach es X.env)).any (·.1) = false := by rfl) : BX X W (.Call (.Name x p2) (e :: es) [] pos) env C := by
  obtain ⟨f, fd, ps, F, hm, kp, hb⟩ := h.ex
  obtain ⟨t, h1, h2⟩ := ha
  refine ⟨_, pe_callS (E := WE W) F (hr.mono hk) hg hm kp hb (fun σ => passAt tk σ) h1 hdb he hpl, fun F0 H0 F H σ S Q q => ?_⟩
  refine h2 F0 H0 F H σ S _ fun vs F' H' g hd => ⟨F', ds, .er C, g.s, hd, hG, fun F2 H2 g2 => q F2 H2 (g.trans g2)⟩
/-- a call whose first argument raises -/
theorem bx_arg (h : Dn X.prog X.w X.K X.mg X.base k x G) (hr : Room k' X.A) (hk : k ≤ k') (ha : BX X W e env C) (hg : Gl X x := by rfl) (hdb : (x == ("__debug__" : Str)) = false := by decide)
    (he : starEach (e :: es) X.env = (false, eval e X.env) :: starEach es X.env := by rfl) (hpl : (backTo pos (starEach es X.env)).any (·.1) = false := by rfl) : BX X W (.Call (.Name x p2) (e :: es) [] pos) env C := by
  obtain ⟨f, fd, ps, F, hm, kp, hb⟩ := h.ex
  obtain ⟨t, h1, h2⟩ := ha
  refine ⟨_, pe_call F (hr.mono hk) hg hm kp hb .nil passL (pa_cons h1 (show PA X es (fun _ _ _ => False) from ⟨fun _ _ _ _ _ _ _ z => False.elim z⟩) he) hdb he hpl, fun F0 H0 F H σ S Q q => ?_⟩
  exact h2 F0 H0 F H σ S _ q
theorem bs_exprX (h : BX X W e env C) (hs : swapsWith e none pos.line X.env = pure false := by rfl) : BS X W T (.Expr e pos) env (.er C env) := by
  obtain ⟨t, h1, h2⟩ := h
  exact ⟨_, ps_expr h1 hs, fun F0 H0 F H σ D S p => h2 F0 H0 F H σ S _ fun F' H' g => p F' H' σ g.f Keep.refl (S.grow g)⟩
theorem bs_retX (h : BX X W e env C) : BS X W T (.Return (some e) pos) env (.er C env) := by
  obtain ⟨t, h1, h2⟩ := h
  exact ⟨_, ps_ret h1, fun F0 H0 F H σ D S p => h2 F0 H0 F H σ S _ fun F' H' g => p F' H' σ g.f Keep.refl (S.grow g)⟩
theorem bs_setX (i : Nat) {y : Str} {pos' : Pos} (nd : X.N.Nodup) (h : BX X W e env C) (hi : X.N[i]? = some y := by rfl) (hx : Loc X.env.scope y := by first | exact Or.inl rfl | exact Or.inr rfl) (hs : swapsWith e (some (.Name y pos')) pos.line X.env = pure false := by rfl)
    (hf : X.fn y = true ∨ X.env.scope.names.lookup y = some .local := by first | exact .inl rfl | exact .inr rfl | assumption) : BS X W T (.Assign [.Name y pos'] e pos) env (.er C env) := by
  obtain ⟨t, h1, h2⟩ := h
  exact ⟨_, ps_set nd hi hx h1 hs hf, fun F0 H0 F H σ D S p => h2 F0 H0 F H σ S _ fun F' H' g => p F' H' σ g.f Keep.refl (S.grow g)⟩
end

/-! ### exceptions -/
/-- what the top says of an own exception class, x at C -/
structure Ec (K : PySem.W.Frag) (mg : Str → Option Value) (x : Str) (C : Addr) : Prop where
  q : PySem.W.excIn K C PySem.HandSPX.veTail "ValueError.__new__" = true
  g : mg x = some (.ref C)
  k : PySem.W.keepIn K (.ref C) = true
  b : PySem.W.subIn K (.ref C) (.type "BaseException") = some true
  t : PySem.W.typeIn K (.ref C) = some (.type "type")
section
variable {X : Cx} {W : WX} {T : Nat → Prop} {env env1 : List Sl} {e a b : Expr} {es : List Expr} {d : D} {ds : List D} {pos p2 p3 p4 : Pos} {out : Out} {k k' : Nat} {x : Str} {G : List D → Rs → Prop} {C : Addr}
theorem bs_raise {m : Str} {j : Nat} (h : Ec X.K X.mg x C) (hc : X.calm = true) (tk : Takes X W) (hg : Gl X x := by rfl) (hdb : (x == ("__debug__" : Str)) = false := by decide) : BS X W T (.Raise (some (.Call (.Name x p2) [.Constant (.str m) j p3] [] p4)) none pos) env (.er C env) := by
  refine ⟨_, ps_raise hc tk (pmk_own PySem.F.excBase_ValueError h.q h.g h.k (raises_own h.b h.t) hg hdb), fun F0 H0 F H σ D S p => ?_⟩
  exact p F H σ (Same.refl _) Keep.refl S
/-- try: body, except y as n: suite; the body runs through -/
theorem bs_tryOk (i : Nat) {y n : Str} {body suite : List Stmt} {b₀ : Stmt} {np pos' : Pos} {CL : Addr} (hm : X.mg y = some (.ref CL)) (hcal : X.calm = true) (hT : T i)
    (hb : ∀ (W' : WX) (pn : List (Addr × Obj)) (xe : Value → Shared → Prop), Takes (X.tr pn xe) W' → PassesOwn (model X.prog X.w) X.A X.env xe → BSs (X.tr pn xe) W' T body env out) (hout : ∀ C env', out ≠ .er C env')
    (hs : X.stack = X.env :: X.outer := by rfl) (hf : X.env.frame = some X.env.locals := by rfl) (nd : X.N.Nodup) (hi : X.N[i]? = some n := by rfl) (hln : X.env.kindOf n = some .local := by rfl) (hg : Gl X y := by rfl) (hdb : (y == ("__debug__" : Str)) = false := by decide) :
    BS X W T (.Try body [.ExceptHandler (some (.Name y np)) (some n) (b₀ :: suite) pos'] [] [] pos) env out := by
  refine ⟨_, ps_try_as (i := i) (tb := fun W' D σ H => ∀ pn xe, Takes (X.tr pn xe) W' → PassesOwn (model X.prog X.w) X.A X.env xe → ∃ t, PSs (X.tr pn xe) body t ∧ t D σ H) (ts := fun _ _ _ _ _ _ => False) (Wout := fun _ _ _ _ => False) hs hf nd hi hln ⟨hg, hdb, .inl hm⟩ takes0
    (fun W' pn xe tk hp => ⟨fun pins s σ H D I h => by obtain ⟨t, h1, h2⟩ := h pn xe tk hp; exact h1.run pins s σ H D I h2⟩) (fun a oe cls d pn hz hf => ⟨fun _ _ _ _ _ _ h => False.elim h⟩), fun F0 H0 F H σ D S p => ?_⟩
  intro pn xe tk hp
  obtain ⟨t, h1, h2⟩ := hb _ pn xe tk hp
  refine ⟨t, h1, h2 F0 H0 F H σ D S ?_⟩
  cases out with
  | nx env => exact p
  | rt r => exact p
  | bk env => exact p
  | ct env => exact p
  | er C env => exact absurd rfl (hout C env)
/-- behind a suite the error's name is gone -/
def outGone (i : Nat) : Out → Out
  | .nx env => .nx (env.set i .no)
  | .bk env => .bk (env.set i .no)
  | .ct env => .ct (env.set i .no)
  | o => o
/-- the body raises what the clause names -/
theorem bs_tryEr (i : Nat) {y n : Str} {body suite : List Stmt} {b₀ : Stmt} {np pos' : Pos} {CL : Addr} (hm : X.mg y = some (.ref CL)) (hx : PySem.W.exmOne X.K (.ref C) (.ref CL) = some true) (hT : T i)
    (hb : ∀ (W' : WX) (pn : List (Addr × Obj)) (xe : Value → Shared → Prop), Takes (X.tr pn xe) W' → PassesOwn (model X.prog X.w) X.A X.env xe → BSs (X.tr pn xe) W' T body env (.er C env1))
    (hsu : ∀ (a : Addr) (oe : Obj) (pn : List (Addr × Obj)), Zc (.ref C) none oe → (∃ vs, oe.data = .fields vs) → BSs (X.suite a ((a, oe) :: pn)) (fun _ _ _ _ => False) T (b₀ :: suite) (env1.set i (.adr a)) out) (hout : ∀ C env', out ≠ .er C env')
    (nd : X.N.Nodup) (hs : X.stack = X.env :: X.outer := by rfl) (hf : X.env.frame = some X.env.locals := by rfl) (hi : X.N[i]? = some n := by rfl) (hln : X.env.kindOf n = some .local := by rfl) (hg : Gl X y := by rfl) (hdb : (y == ("__debug__" : Str)) = false := by decide) :
    BS X W T (.Try body [.ExceptHandler (some (.Name y np)) (some n) (b₀ :: suite) pos'] [] [] pos) env (outGone i out) := by
  refine ⟨_, ps_try_as (i := i) (tb := fun W' D σ H => ∀ pn xe, Takes (X.tr pn xe) W' → PassesOwn (model X.prog X.w) X.A X.env xe → ∃ t, PSs (X.tr pn xe) body t ∧ t D σ H)
    (ts := fun a cls d D σ H => cls = .ref C ∧ d = none ∧ ∀ oe pn, Zc (.ref C) none oe → (∃ vs, oe.data = .fields vs) → ∃ t, PSs (X.suite a ((a, oe) :: pn)) (b₀ :: suite) t ∧ t D σ H) (Wout := fun _ _ _ _ => False) hs hf nd hi hln ⟨hg, hdb, .inl hm⟩ takes0
    (fun W' pn xe tk hp => ⟨fun pins s σ H D I h => by obtain ⟨t, h1, h2⟩ := h pn xe tk hp; exact h1.run pins s σ H D I h2⟩)
    (fun a oe cls d pn hz hf => ⟨fun pins s σ H D I h => by obtain ⟨rfl, rfl, h⟩ := h; obtain ⟨t, h1, h2⟩ := h oe pn hz hf; exact h1.run pins s σ H D I h2⟩), fun F0 H0 F H σ D S p => ?_⟩
  intro pn xe tk hp
  obtain ⟨t, h1, h2⟩ := hb _ pn xe tk hp
  refine ⟨t, h1, h2 F0 H0 F H σ D S ?_⟩
  intro F1 H1 σ1 ex k1 S1
  refine ⟨true, hx, fun _ a ha => ⟨rfl, rfl, fun oe pn hz hf => ?_⟩, fun z => Bool.noConfusion z⟩
  obtain ⟨u, u1, u2⟩ := hsu a oe pn hz hf
  refine ⟨u, u1, u2 F0 H0 F1 H1 _ _ S1.set_adr ?_⟩
  have kk : ∀ {σ' : L2.St}, Keep T (σ1.set i (some (V.ref a))) σ' → Keep T σ (σ'.set i none) := fun k' => ((k1.trans (Keep.set hT)).trans k').trans (Keep.set hT)
  cases out with
  | nx env => exact fun F' H' σ' e' k' S' => p F' H' _ (ex.trans e') (kk k') S'.drop
  | rt r => exact p
  | bk env => exact fun F' H' σ' e' k' S' => p F' H' _ (ex.trans e') (kk k') S'.drop
  | ct env => exact fun F' H' σ' e' k' S' => p F' H' _ (ex.trans e') (kk k') S'.drop
  | er C env => exact absurd rfl (hout C env)
end
end PD
/-! PD: an exception that a suite holds, handed to a def that asks its classes -/
namespace PD
open PySem L2 PySem.Spec PyProof.Rows

/-- a def that is called within an except suite: p, the exception that is handled, is told to it -/
structure FnN (P : Program) (w : World) (K : PySem.W.Frag) (mg : Str → Option Value) (base : Heap) (k : Nat) (f : Addr) (fd : FuncData) (ps : List Str) (sp : Addr × Obj → Sp) : Prop where
  len : ∀ p vs H Q E, sp p vs H Q E → vs.length = ps.length
  run : ∀ (p : Addr × Obj) (A : Around) (outer : List Env) (s : Shared) (H : Hp) (args : Args) (us : List Value) (vs : List V) (Q : VK) (E : XK),
    L2H.RoomH k A → L2H.PinOk outer H s p → Env0 P w K mg base A outer s H → BindsTo s fd args (ps.zip us) → Vals vs us → sp p vs H Q E → codeAny (model P w) A (.call (.ref f) args) (CR CX0 outer P w H s Q E) s
theorem fnN_of {P : Program} {w : World} {K : PySem.W.Frag} {mg : Str → Option Value} {base : Heap} {k : Nat} {x qual : Str} {st : Stmt} {f : Addr} {fd : FuncData} {N ps : List Str} {sp : Addr × Obj → Sp}
    (F : Fun K x qual st f fd) (S : FnScope N ps (defScope st)) (len : ∀ p vs H Q E, sp p vs H Q E → vs.length = ps.length)
    (body : ∀ (p : Addr × Obj) (cdv : Value) (A : Around) (outer : List Env) (s : Shared) (H : Hp) (vs : List V) (Q : VK) (E : XK), sp p vs H Q E →
      ∃ t, PSs (L2H.cxH CX0 P w K mg base N qual (defScope st) f cdv A outer s H E p) (defBody st) t ∧ t { nx := fun _ H' => Q .non H', rt := Q } (L2.start N vs) H) : FnN P w K mg base (k + 1) f fd ps sp := by
  obtain ⟨oc, od, kV, doc, pm, an, cdv, ct, osl, rfl, look, code⟩ := F.ex
  refine ⟨len, fun p A outer s H args us vs Q E room pin e0 bnd rel asked => ?_⟩
  have inK : K.In s.heap := e0.mod.kin.keeps (fun b o e => (e0.bs b o e).1)
  have nolim : s.heap.NoLimit := e0.mod.nolimit.keeps (fun b o e => (e0.bs b o e).1)
  have kinds : ∀ y, y ∈ ps.zip us → (defScope st).names.lookup y.1 = some .local ∨ ((defScope st).names.lookup y.1 = some .cell ∧ ((cellsFrom (s.heap.objs.size + 1) (defScope st).names []).lookup y.1).isSome = true) := by
    intro y hy
    obtain ⟨n, v⟩ := y
    cases S.par n (List.of_mem_zip hy).1 with
    | inl q => exact Or.inl q
    | inr q => exact Or.inr ⟨q, PySem.W.cellsFrom_some _ _ _ (Or.inl q)⟩
  refine codeAny_call_function room.depth (inK _ _ look) rfl S.co S.gen rfl (PySem.W.codeRec_of inK code) (bnd _ _ _ _ ?_)
  refine wpAny_newFunctionEnv_cells S.kind kinds fun env he s1 ic => ?_
  subst he
  refine ⟨nolim.keeps ic.toInCall.keep, codeAny_func ?_⟩
  obtain ⟨t, ht, hq⟩ := body p cdv A outer s H vs Q E asked
  have start_ := L2H.inv_startH (CX := CX0) (P := P) (w := w) (mg := mg) (f := f) (cd := cdv) (E := E) S pin e0 (len _ _ _ _ _ asked) rel ic
  have back : ∀ {s' : Shared} {σ' : L2.St} {H' : Hp} {v : V} {u : Value}, Inv (L2H.cxH CX0 P w K mg base N qual (defScope st) f cdv A outer s H E p) [] σ' H' s' → RelV v u → Q v H' → CE outer P w H s Q u s' :=
    fun J rv q => ⟨_, _, J.os, J.bare, J.base, J.hok, rv, q⟩
  refine wpAny_mono (ht.run [] s1 (L2.start N vs) H _ start_ hq) (fun fl s' hs => ?_) (fun e s' hs => hs)
  cases fl with
  | next => obtain ⟨σ', H', J, q⟩ := hs; exact back (v := V.non) (u := Value.none) J rfl q
  | ret u => obtain ⟨v, σ', H', J, rv, q⟩ := hs; exact back J rv q
  | brk => obtain ⟨_, _, _, q⟩ := hs; exact q.elim
  | cont => obtain ⟨_, _, _, q⟩ := hs; exact q.elim

/-- isinstance(e, c), e pinned in the context -/
theorem call_isP {X : Cx} {a D : Addr} {oe : Obj} (C : ExcC X.K D) (hp : (a, oe) ∈ X.pn) (hz : Zc (.ref D) none oe) (hf : ∃ vs, oe.data = .fields vs) : CallR X (.builtin "isinstance") (rIsE X.K D a) := by
  intro pins s σ H xs us Q I r h
  obtain ⟨c, cv, b, rfl, hcv, e, q⟩ := h
  obtain ⟨u1, u2, rfl, r1, r2⟩ := vals2 r
  obtain rfl : u1 = Value.ref a := r1
  obtain rfl := hcv _ r2
  have hget := (I.pin (a, oe) (List.mem_append_left _ hp)).1
  obtain ⟨vs, hv⟩ := hf
  have J : PySem.W.InstAt s.heap a oe D none := by
    obtain ⟨oc, od, oda, osl⟩ := oe
    obtain ⟨h1, h2⟩ := hz
    dsimp only at h1 h2 hv
    subst h1 h2 hv
    exact ⟨hget, rfl, rfl, trivial⟩
  exact PySem.W.kia_one (PySem.W.handS_kitx_exc C.hg C.hk C.hs C.hd C.ha C.hn C.ht C.hm) I.kIn J e (fun z => nomatch z) fun tk => ⟨.bl b, H, I.kept (t' := tk) fun _ _ z => z, rfl, q⟩

/-- the names' promise: of an exception of the class D the text that nm tells -/
def spN (nm : Addr → Str → Prop) : Addr × Obj → Sp := fun p vs H Q _ => ∃ (D : Addr) (txt : Str), vs = [.ref p.1] ∧ Zc (.ref D) none p.2 ∧ (∃ fs, p.2.data = .fields fs) ∧ nm D txt ∧ ∀ H', Ex H H' → Q (.str txt) H'
structure Nn (P : Program) (w : World) (K : PySem.W.Frag) (mg : Str → Option Value) (base : Heap) (k : Nat) (x : Str) (nm : Addr → Str → Prop) : Prop where
  ex : ∃ (f : Addr) (fd : FuncData) (ps : List Str), FnN P w K mg base k f fd ps (spN nm) ∧ mg x = some (.ref f) ∧ PySem.W.keepIn K (.ref f) = true ∧ Binds K fd ps []
section
variable {X : Cx} {env : List Sl} {pos p2 p3 p4 : Pos} {k k' : Nat} {x n y : Str} {C : Addr}
/-- names(e) within the suite that holds e -/
theorem be_callN (i : Nat) {nm : Addr → Str → Prop} {a D : Addr} {oe : Obj} {pn : List (Addr × Obj)} {txt : Str} (h : Nn X.prog X.w X.K X.mg X.base k x nm) (hr : Room k' X.A) (hk : k ≤ k') (hi : env[i]? = some (.adr a)) (hz : Zc (.ref D) none oe) (hf : ∃ fs, oe.data = .fields fs) (hnm : nm D txt)
    (hN : X.N[i]? = some n := by rfl) (hv : Vis X.env.scope n := by first | exact Or.inl rfl | exact Or.inr (Or.inl rfl) | exact Or.inr (Or.inr rfl)) (hdd : (n == ("__debug__" : Str)) = false := by decide) (hcd : (n == ("__classdict__" : Str)) = false := by decide) (hg : Gl X x := by rfl) (hdb : (x == ("__debug__" : Str)) = false := by decide)
    (he : starEach (.Name n p3 :: []) X.env = (false, eval (.Name n p3) X.env) :: starEach [] X.env := by rfl) (hpl : (backTo pos (starEach [] X.env)).any (·.1) = false := by rfl) :
    BE (X.suite a ((a, oe) :: pn)) (.Call (.Name x p2) [.Name n p3] [] pos) env (.ok (.str txt)) := by
  obtain ⟨f, fd, ps, F, hm, kp, hb⟩ := h.ex
  refine ⟨fun σ H Q => σ[i]? = some (some (.ref a)) ∧ ∀ H', Ex H H' → Q (.str txt) H', ⟨fun pins s σ H Q I h => ?_⟩, fun F0 H0 F H σ S Q q => ?_⟩
  · obtain ⟨hσ, hq⟩ := h
    have pv : PE (X.suite a ((a, oe) :: pn)) (.Name n p3) (tVar i) := pe_var hN hv hdd hcd
    refine wpAny_Call_Name_kw (ld_glob I hg hm ?_ hdb)
    refine PySem.W.callWith_K (h₀ := X.base) I.ok.mod.kin kp (thn ((pa_cons pv pa_nil he).run pos pins s σ H (fun vs H1 => vs = [V.ref a] ∧ ∀ H', Ex H1 H' → Q (.str txt) H') I ⟨_, hσ, rfl, hq⟩) fun us s1 hh => ?_) he hpl
    obtain ⟨vs, H1, I1, r, rfl, hq1⟩ := hh
    refine ⟨I1.kIn, ?_⟩
    have P1 := I1.pin (a, oe) (List.mem_append_left _ List.mem_cons_self)
    have pin : L2H.PinOk X.stack H1 s1 (a, oe) := ⟨P1.1, P1.2.1, fun hm => (List.mem_cons.mp (I1.stkSub a hm)).elim P1.2.2.1 P1.2.2.2.1, P1.2.2.2.2⟩
    have hs : spN nm (a, oe) [V.ref a] H1 Q E0 := ⟨D, txt, rfl, hz, hf, hnm, hq1⟩
    have hl : us.length = ps.length := by rw [← r.length]; exact F.len _ _ _ _ _ hs
    have b := hb s1 us I1.kIn (by rw [List.append_nil]; exact hl)
    rw [List.append_nil] at b
    have r0 := (L2H.roomH_of hr).mono hk
    have room : L2H.RoomH k (X.suite a ((a, oe) :: pn)).A := ⟨r0.dp, r0.un⟩
    refine wpAny_call (codeAny_mono (F.run (a, oe) _ X.stack s1 H1 ⟨us, []⟩ us _ Q E0 room pin I1.env0 b r hs) fun r s' hq => ?_)
    cases r with
    | error e => exact False.elim hq
    | ok fl =>
      cases fl with
      | ret u => exact I1.after hq
      | next => exact False.elim hq
      | brk => exact False.elim hq
      | cont => exact False.elim hq
  · refine ⟨S.ok i _ hi, fun H' e => q _ F H' ⟨Same.refl _, e, S.ex.trans e, fun b o h0 h1 => by rw [h0] at h1; cases h1⟩ (.str txt)⟩
/-- isinstance(e, an own class) -/
theorem be_isE (i : Nat) {a D D2 : Addr} {oe : Obj} {b : Bool} (C : ExcC X.K D) (hp : (a, oe) ∈ X.pn) (hz : Zc (.ref D) none oe) (hf : ∃ vs, oe.data = .fields vs) (hi : env[i]? = some (.adr a)) (hm : X.mg "isinstance" = none) (hmy : X.mg y = some (.ref D2)) (hk : PySem.W.kitOne X.K (.ref D) (.ref D2) = some b)
    (hN : X.N[i]? = some n := by rfl) (hv : Vis X.env.scope n := by first | exact Or.inl rfl | exact Or.inr (Or.inl rfl) | exact Or.inr (Or.inr rfl)) (hdd : (n == ("__debug__" : Str)) = false := by decide) (hcd : (n == ("__classdict__" : Str)) = false := by decide) (hg : Gl X "isinstance" := by rfl) (hgy : Gl X y := by rfl) (hdy : (y == ("__debug__" : Str)) = false := by decide)
    (hs : starEach [.Name n p3, .Name y p4] X.env = (false, eval (.Name n p3) X.env) :: starEach [.Name y p4] X.env := by rfl) (hpl : (backTo pos (starEach [.Name y p4] X.env)).any (·.1) = false := by rfl) :
    BE X (.Call (.Name "isinstance" p2) [.Name n p3, .Name y p4] [] pos) env (.ok (.bool b)) := by
  refine ⟨_, pe_callB (call_isP C hp hz hf) hg hm boot_isinstance (pa_cons (pe_var hN hv hdd hcd) (pa_cons (pe_glob (v := .ref D2) hgy hmy rfl hdy) pa_nil) hs) (by decide) (by decide) hs hpl, fun F0 H0 F H σ S Q q => ?_⟩
  exact ⟨_, S.ok i _ hi, .ref D2, .ref D2, b, rfl, fun u r => r, hk, q _ F H (Gr.refl S.ex) (.bl b)⟩
/-- isinstance(e, a built-in class) -/
theorem be_isEB (i : Nat) {a D : Addr} {tn : String} {oe : Obj} {b : Bool} (C : ExcC X.K D) (hp : (a, oe) ∈ X.pn) (hz : Zc (.ref D) none oe) (hf : ∃ vs, oe.data = .fields vs) (hi : env[i]? = some (.adr a)) (hm : X.mg "isinstance" = none) (hmy : X.mg y = none) (hvy : bootBuiltins y = some (.type tn)) (hk : PySem.W.kitOne X.K (.ref D) (.type tn) = some b)
    (hN : X.N[i]? = some n := by rfl) (hv : Vis X.env.scope n := by first | exact Or.inl rfl | exact Or.inr (Or.inl rfl) | exact Or.inr (Or.inr rfl)) (hdd : (n == ("__debug__" : Str)) = false := by decide) (hcd : (n == ("__classdict__" : Str)) = false := by decide) (hg : Gl X "isinstance" := by rfl) (hgy : Gl X y := by rfl) (hny : y ≠ "__name__" := by decide) (hdy : (y == ("__debug__" : Str)) = false := by decide)
    (hs : starEach [.Name n p3, .Name y p4] X.env = (false, eval (.Name n p3) X.env) :: starEach [.Name y p4] X.env := by rfl) (hpl : (backTo pos (starEach [.Name y p4] X.env)).any (·.1) = false := by rfl) :
    BE X (.Call (.Name "isinstance" p2) [.Name n p3, .Name y p4] [] pos) env (.ok (.bool b)) := by
  refine ⟨_, pe_callB (call_isP C hp hz hf) hg hm boot_isinstance (pa_cons (pe_var hN hv hdd hcd) (pa_cons (pe_bltn (v := .ty tn) hgy hmy hvy rfl hny hdy) pa_nil) hs) (by decide) (by decide) hs hpl, fun F0 H0 F H σ S Q q => ?_⟩
  exact ⟨_, S.ok i _ hi, .ty tn, .type tn, b, rfl, fun u r => r, hk, q _ F H (Gr.refl S.ex) (.bl b)⟩
end
end PD
/-! PD: what the top has left -/
namespace PD
open PySem L2 PySem.Spec PyProof.Rows

/-- a def of the text stands at its name -/
structure FunT (K : PySem.W.Frag) (mg : Str → Option Value) (x : Str) (st : Stmt) : Prop where
  ex : ∃ (f : Addr) (fd : FuncData), Fun K x x st f fd ∧ mg x = some (.ref f)
section
variable {K : PySem.W.Frag} {h : Heap} {mg : Str → Option Value} {x : Str}
theorem funT_mk {st : Stmt} {f : Addr} {oc : Value} {od an : Option Addr} {osl : Array (Option Value)} {kV doc pm cdv ct : Value} (X : K.In h) (G : h.Ns mainGlobals mg) (a : PySem.W.nsIn K mainGlobals x = some (some (.ref f)))
    (l : K.lookup f = some ⟨oc, od, .func (PySem.W.fnOf x x (defArgs st) (defBody st) (defScope st) .none kV doc pm an cdv ct), osl⟩) (c : PySem.W.codeIn K cdv x = true) (k : PySem.W.keepIn K (.ref f) = true) : FunT K mg x st :=
  ⟨f, _, fun_mk l c k, PySem.W.mg_of X G a⟩
theorem ec_mk {C : Addr} (X : K.In h) (G : h.Ns mainGlobals mg) (a : PySem.W.nsIn K mainGlobals x = some (some (.ref C))) (q : PySem.W.excIn K C PySem.HandSPX.veTail "ValueError.__new__" = true) (k : PySem.W.keepIn K (.ref C) = true) (b : PySem.W.subIn K (.ref C) (.type "BaseException") = some true) (t : PySem.W.typeIn K (.ref C) = some (.type "type")) : Ec K mg x C :=
  ⟨q, PySem.W.mg_of X G a, k, b, t⟩
/-- the own exception classes, by name -/
inductive Ee where
  | land | size | fence | many | spot | way | noland | nofence
  deriving DecidableEq
/-- what isinstance and except want of them -/
structure Es (K : PySem.W.Frag) (mg : Str → Option Value) (c : Ee → Addr) : Prop where
  land : Ec K mg "LandError" (c .land)
  size : Ec K mg "BadSize" (c .size)
  fence : Ec K mg "BadFence" (c .fence)
  many : Ec K mg "TooMany" (c .many)
  spot : Ec K mg "BadSpot" (c .spot)
  way : Ec K mg "BadWay" (c .way)
  noland : Ec K mg "NoLand" (c .noland)
  nofence : Ec K mg "NoFence" (c .nofence)
structure Ei (K : PySem.W.Frag) (c : Ee → Addr) : Prop where
  ex : ∀ e : Ee, e ≠ .land → ExcC K (c e)
  one : ∀ e e' : Ee, e ≠ .land → e' ≠ .land → PySem.W.kitOne K (.ref (c e)) (.ref (c e')) = some (decide (e = e'))
  val : ∀ e : Ee, e ≠ .land → PySem.W.kitOne K (.ref (c e)) (.type "ValueError") = some true
  exm : ∀ e : Ee, e ≠ .land → PySem.W.exmOne K (.ref (c e)) (.ref (c .land)) = some true
theorem kit_self {t : Value} : PySem.W.kitOne K t t = some true := by simp [PySem.W.kitOne]
theorem kit_ref {C D : Addr} {b : Bool} (hd : PySem.W.hasDictIn K C = true) (ht : PySem.W.typeIn K (.ref C) = some (.type "type")) (hs : PySem.W.subIn K (.ref D) (.ref C) = some b) (hb : D = C → b = true) : PySem.W.kitOne K (.ref D) (.ref C) = some b := by
  unfold PySem.W.kitOne
  by_cases e : D = C
  · subst e
    rw [hb rfl, if_pos (by simp)]
  · obtain ⟨cd, hc, _⟩ := PySem.W.any_some hd
    rw [if_neg (by simpa using e)]
    show (if ((PySem.W.clsIn K C).isSome && PySem.W.typeIn K (.ref C) == some (.type "type")) = true then _ else _) = _
    rw [if_pos (by rw [hc, ht]; rfl)]
    exact hs
theorem kit_typ {D : Addr} {n : String} {b : Bool} (hm : PySem.W.kitMeta n = true) (hs : PySem.W.subIn K (.ref D) (.type n) = some b) : PySem.W.kitOne K (.ref D) (.type n) = some b := by
  unfold PySem.W.kitOne
  rw [if_neg (by simp)]
  show (if PySem.W.kitMeta n = true then _ else _) = _
  rw [if_pos hm]
  exact hs
theorem kit_ne {C D : Addr} (hd : PySem.W.hasDictIn K C = true) (ht : PySem.W.typeIn K (.ref C) = some (.type "type")) (ss : PySem.W.subIn K (.ref C) (.ref C) = some true) (hs : PySem.W.subIn K (.ref D) (.ref C) = some false) : PySem.W.kitOne K (.ref D) (.ref C) = some false := by
  refine kit_ref hd ht hs fun e => ?_
  subst e
  rw [ss] at hs
  exact absurd hs (by simp)
/-- one class more in full -/
structure Ex1 (K : PySem.W.Frag) (C L : Addr) : Prop where
  hd : PySem.W.hasDictIn K C = true
  hg : PySem.W.findIn K (.ref C) "__getattribute__" = some (some (.builtin "BaseException.__getattribute__"))
  hk : PySem.W.findIn K (.ref C) "__getattr__" = some none
  ha : PySem.W.findIn K (.ref C) "__class__" = some (some (.builtin "object.__class__"))
  hm : PySem.W.mroIn K C (.type "object") = some true
  sv : PySem.W.subIn K (.ref C) (.type "ValueError") = some true
  sl : PySem.W.subIn K (.ref C) (.ref L) = some true
  ss : PySem.W.subIn K (.ref C) (.ref C) = some true
theorem excC_mk {C L : Addr} (h : Ex1 K C L) (b : PySem.W.subIn K (.ref C) (.type "BaseException") = some true) (hn : PySem.W.specialIn K (.builtin "object.__class__") "__get__" = some (some (.builtin "getset_descriptor.__get__"))) (ht : PySem.W.takesIn K (.builtin "object.__class__") = some true) : ExcC K C :=
  { hg := h.hg, hk := h.hk, hs := b, hd := h.hd, ha := h.ha, hn := hn, ht := ht, hm := h.hm }
end
end PD
/-! PD: grounds as they are read -/
namespace PD
open PySem L2 PySem.Spec PyProof.Rows

/-! ### arguments that may be grounds, or addresses -/
inductive Av where
  | d (x : D)
  | g (g : Gs)
  | a (p : Addr)
def avSl : Av → Sl
  | .d x => .v x
  | .g y => .gnd y
  | .a p => .adr p
def AvOk (K : PySem.W.Frag) (F H : Hp) (v : V) : Av → Prop
  | .d x => Dp K F v x
  | .g g => v = .ref g.p ∧ GAt K F H g
  | .a p => v = .ref p
inductive AvAll (K : PySem.W.Frag) (F H : Hp) : List V → List Av → Prop
  | nil : AvAll K F H [] []
  | cons {v : V} {vs : List V} {a : Av} {as : List Av} : AvOk K F H v a → AvAll K F H vs as → AvAll K F H (v :: vs) (a :: as)
section
variable {K : PySem.W.Frag} {F H F' H' : Hp}
theorem AvOk.mono {v : V} {a : Av} (h : AvOk K F H v a) (e1 : Ex F F') (e2 : Ex H H') : AvOk K F' H' v a := by
  cases a with
  | d x => exact dp_mono e1 h
  | g g => exact ⟨h.1, h.2.mono e1 e2⟩
  | a p => exact h
theorem AvAll.mono (e1 : Ex F F') (e2 : Ex H H') : ∀ {vs : List V} {as : List Av}, AvAll K F H vs as → AvAll K F' H' vs as
  | _, _, .nil => .nil
  | _, _, .cons h r => .cons (h.mono e1 e2) (AvAll.mono e1 e2 r)
theorem AvAll.len : ∀ {vs : List V} {as : List Av}, AvAll K F H vs as → vs.length = as.length
  | _, _, .nil => rfl
  | _, _, .cons _ r => by simp [AvAll.len r]
theorem AvAll.get : ∀ {vs : List V} {as : List Av} {i : Nat} {a : Av}, AvAll K F H vs as → as[i]? = some a → ∃ v, vs[i]? = some v ∧ AvOk K F H v a
  | _, _, i, a, .nil, e => by simp at e
  | _, _, 0, a, .cons h _, e => by
    have e : _ = a := Option.some.inj e
    subst e
    exact ⟨_, rfl, h⟩
  | _, _, i + 1, a, .cons _ r, e => by
    obtain ⟨v, e1, h⟩ := AvAll.get (i := i) (a := a) r (by simpa using e)
    exact ⟨v, by simpa using e1, h⟩
end
def st0V (N : List Str) (as : List Av) : List Sl := as.map avSl ++ List.replicate (N.length - as.length) Sl.no
/-- what a call's answer is worth, the heap of the entry H0 -/
theorem avs_slots {K : PySem.W.Frag} {F H H0 : Hp} {N : List Str} {vs : List V} {as : List Av} (h : AvAll K F H vs as) (hg : ∀ g : Gs, Av.g g ∈ as → GAt K F H0 g) :
    (L2.start N vs).length = (st0V N as).length ∧ (∀ (i : Nat) (s : Sl), (st0V N as)[i]? = some s → SlOk K H0 F H ((L2.start N vs)[i]?) s ∧ s.isOwn = false) := by
  have hl := h.len
  refine ⟨by unfold L2.start st0V; simp [hl], fun i x e => ?_⟩
  unfold st0V at e
  unfold L2.start
  by_cases hi : i < as.length
  · rw [List.getElem?_append_left (by simpa using hi), List.getElem?_map] at e
    rw [List.getElem?_append_left (by simpa [hl] using hi), List.getElem?_map]
    cases q : as[i]? with
    | none => rw [q] at e; cases e
    | some a =>
      rw [q] at e
      cases e
      obtain ⟨v, hv, hd⟩ := h.get q
      rw [hv]
      cases a with
      | d x => exact ⟨⟨v, rfl, hd⟩, rfl⟩
      | g g => exact ⟨⟨by rw [hd.1]; rfl, hg g (List.mem_of_getElem? q)⟩, rfl⟩
      | a p =>
        have e2 : v = .ref p := hd
        subst e2
        exact ⟨rfl, rfl⟩
  · rw [List.getElem?_append_right (by simpa using hi), List.getElem?_replicate] at e
    split at e
    · cases e
      exact ⟨trivial, rfl⟩
    · cases e
theorem sd_startV {K : PySem.W.Frag} {F H : Hp} {N : List Str} {vs : List V} {as : List Av} (s : Ex F H) (h : AvAll K F H vs as) : Sd K F H F H (L2.start N vs) (st0V N as) := by
  have hg : ∀ g : Gs, Av.g g ∈ as → GAt K F H g := fun g hm => by
    obtain ⟨i, hi⟩ := List.mem_iff_getElem?.mp hm
    obtain ⟨v, _, hv⟩ := h.get hi
    exact hv.2
  obtain ⟨h1, h2⟩ := avs_slots (N := N) (H0 := H) h hg
  refine ⟨Gr.refl s, h1, fun i x e => (h2 i x e).1, fun i j x y a e1 e2 o1 o2 _ _ => ?_⟩
  rw [(h2 i x e1).2] at o1
  cases o1

/-! ### reading a ground's fields -/
theorem kne1 : (("kept" : Str) == ("size" : Str)) = false := by decide +kernel
theorem kne2 : (("came" : Str) == ("size" : Str)) = false := by decide +kernel
theorem kne3 : (("size" : Str) == ("kept" : Str)) = false := by decide +kernel
theorem kne4 : (("came" : Str) == ("kept" : Str)) = false := by decide +kernel
theorem kne5 : (("size" : Str) == ("came" : Str)) = false := by decide +kernel
theorem kne6 : (("kept" : Str) == ("came" : Str)) = false := by decide +kernel
theorem gl_size {n c : Int} {d : Addr} : (gFlds n c d).lookup ("size" : Str) = some (.int n) := by
  unfold gFlds
  simp only [List.lookup, BEq.rfl]
theorem gl_kept {n c : Int} {d : Addr} : (gFlds n c d).lookup ("kept" : Str) = some (.ref d) := by
  unfold gFlds
  simp only [List.lookup, BEq.rfl, kne1]
theorem gl_came {n c : Int} {d : Addr} : (gFlds n c d).lookup ("came" : Str) = some (.int c) := by
  unfold gFlds
  simp only [List.lookup, BEq.rfl, kne2, kne4]
theorem gl_no {n c : Int} {d : Addr} {m : Str} (h1 : (m == ("size" : Str)) = false) (h2 : (m == ("kept" : Str)) = false) (h3 : (m == ("came" : Str)) = false) : (gFlds n c d).lookup m = none := by
  unfold gFlds
  simp only [List.lookup, h1, h2, h3]
/-- the class, as the top has made it -/
structure GCls (K : PySem.W.Frag) (C : Addr) : Prop where
  cl : Cls K C
  nS : NoAttr K C "size"
  nK : NoAttr K C "kept"
  nC : NoAttr K C "came"
def kvGet (kv : List (Int × D)) (k : Int) : Option D := (kv.find? fun x => decide (x.1 = k)).map (·.2)
theorem kv_val {K : PySem.W.Frag} {F : Hp} : ∀ {kvs : List (Key × V)} {kv : List (Int × D)} (k : Int), kvs.map (·.1) = kv.map (fun x => (Sum.inl x.1 : Key)) → DpAll K F (kvs.map (·.2)) (kv.map (·.2)) →
    (kvGet kv k = none ∧ valV kvs (Sum.inl k : Key) = none) ∨ ∃ d v, kvGet kv k = some d ∧ valV kvs (Sum.inl k : Key) = some v ∧ Dp K F v d
  | [], [], k, _, _ => .inl ⟨rfl, rfl⟩
  | [], _ :: _, k, h, _ => by simp at h
  | _ :: _, [], k, h, _ => by simp at h
  | (a, v) :: r, (b, d) :: t, k, h, hd => by
    rw [List.map_cons, List.map_cons] at h
    injection h with h1 h2
    have h1' : a = Sum.inl b := h1
    subst h1'
    rw [List.map_cons, List.map_cons] at hd
    cases hd with
    | cons q1 q2 =>
      by_cases hk : b = k
      · subst hk
        refine .inr ⟨d, v, ?_, valV_pos rfl, q1⟩
        unfold kvGet
        rw [List.find?_cons_of_pos (by simp)]
        rfl
      · have e1 : kvGet ((b, d) :: t) k = kvGet t k := by
          unfold kvGet
          rw [List.find?_cons_of_neg (by simpa using hk)]
        have e2 : valV ((Sum.inl b, v) :: r) (Sum.inl k : Key) = valV r (Sum.inl k : Key) := valV_neg (fun z => hk (by injection z))
        rw [e1, e2]
        exact kv_val k h2 q2
theorem kv_len {kvs : List (Key × V)} {kv : List (Int × D)} (h : kvs.map (·.1) = kv.map (fun x => (Sum.inl x.1 : Key))) : kvs.length = kv.length := by
  have := congrArg List.length h
  simpa using this
section
variable {X : Cx} {W : WX} {T : Nat → Prop} {env : List Sl} {e o : Expr} {es : List Expr} {g : Gs} {d : D} {ds : List D} {pos p2 p3 p4 apos : Pos} {x m : Str}
theorem be_size (i : Nat) (hi : env[i]? = some (.gnd g)) (c : GCls X.K g.C) (hN : X.N[i]? = some x := by rfl) (hv : Vis X.env.scope x := by first | exact Or.inl rfl | exact Or.inr (Or.inl rfl) | exact Or.inr (Or.inr rfl)) (hdd : (x == ("__debug__" : Str)) = false := by decide)
    (hcd : (x == ("__classdict__" : Str)) = false := by decide) (hb : attributeBase (.Name x p2) "size" X.env (eval (.Name x p2) X.env) = eval (.Name x p2) X.env := by rfl) : BE X (.Attribute (.Name x p2) "size" pos) env (.ok (.int g.n)) := by
  refine ⟨_, pe_fld (pe_var hN hv hdd hcd) hb, fun F0 H0 F H σ S Q q => ?_⟩
  obtain ⟨e1, dx, kvs, h1, h2, h3, h4⟩ := S.ok i _ hi
  exact ⟨_, e1, g.p, g.C, dx, _, _, rfl, S.gr.h _ _ h1, c.cl, c.nS, gl_size, q _ F H (Gr.refl S.ex) (.int _)⟩
theorem be_came (i : Nat) (hi : env[i]? = some (.gnd g)) (c : GCls X.K g.C) (hN : X.N[i]? = some x := by rfl) (hv : Vis X.env.scope x := by first | exact Or.inl rfl | exact Or.inr (Or.inl rfl) | exact Or.inr (Or.inr rfl)) (hdd : (x == ("__debug__" : Str)) = false := by decide)
    (hcd : (x == ("__classdict__" : Str)) = false := by decide) (hb : attributeBase (.Name x p2) "came" X.env (eval (.Name x p2) X.env) = eval (.Name x p2) X.env := by rfl) : BE X (.Attribute (.Name x p2) "came" pos) env (.ok (.int g.came)) := by
  refine ⟨_, pe_fld (pe_var hN hv hdd hcd) hb, fun F0 H0 F H σ S Q q => ?_⟩
  obtain ⟨e1, dx, kvs, h1, h2, h3, h4⟩ := S.ok i _ hi
  exact ⟨_, e1, g.p, g.C, dx, _, _, rfl, S.gr.h _ _ h1, c.cl, c.nC, gl_came, q _ F H (Gr.refl S.ex) (.int _)⟩
theorem be_lenKept (i : Nat) (hi : env[i]? = some (.gnd g)) (c : GCls X.K g.C) (hm : X.mg "len" = none) (hg : Gl X "len" := by rfl) (hN : X.N[i]? = some x := by rfl) (hv : Vis X.env.scope x := by first | exact Or.inl rfl | exact Or.inr (Or.inl rfl) | exact Or.inr (Or.inr rfl)) (hdd : (x == ("__debug__" : Str)) = false := by decide)
    (hcd : (x == ("__classdict__" : Str)) = false := by decide) (hb : attributeBase (.Name x p2) "kept" X.env (eval (.Name x p2) X.env) = eval (.Name x p2) X.env := by rfl)
    (hs : starEach [.Attribute (.Name x p2) "kept" p3] X.env = (false, eval (.Attribute (.Name x p2) "kept" p3) X.env) :: starEach [] X.env := by rfl) : BE X (.Call (.Name "len" p4) [.Attribute (.Name x p2) "kept" p3] [] pos) env (.ok (.int g.kv.length)) := by
  refine ⟨_, pe_callB call_lenD hg hm PySem.boot_len (pa_cons (pe_fld (pe_var hN hv hdd hcd) hb) pa_nil hs), fun F0 H0 F H σ S Q q => ?_⟩
  obtain ⟨e1, dx, kvs, h1, h2, h3, h4⟩ := S.ok i _ hi
  refine ⟨_, e1, g.p, g.C, dx, _, _, rfl, S.gr.h _ _ h1, c.cl, c.nK, gl_kept, g.d, kvs, rfl, S.gr.h _ _ h2, ?_⟩
  rw [kv_len h3]
  exact q _ F H (Gr.refl S.ex) (.int _)
theorem bt_notInKept (i : Nat) {k : Int} (hi : env[i]? = some (.gnd g)) (c : GCls X.K g.C) (hu : X.A.units + 1 < cLine) (he : BE X e env (.ok (.int k))) (hN : X.N[i]? = some x := by rfl) (hv : Vis X.env.scope x := by first | exact Or.inl rfl | exact Or.inr (Or.inl rfl) | exact Or.inr (Or.inr rfl)) (hdd : (x == ("__debug__" : Str)) = false := by decide)
    (hcd : (x == ("__classdict__" : Str)) = false := by decide) (hb : attributeBase (.Name x p2) "kept" X.env (eval (.Name x p2) X.env) = eval (.Name x p2) X.env := by rfl) (hm : behindInMarks .NotIn (.Attribute (.Name x p2) "kept" p3) = false := by rfl) :
    BT X (.Compare e [.NotIn] [.Attribute (.Name x p2) "kept" p3] pos) env (!(kvGet g.kv k).isSome) := by
  obtain ⟨t, p1, q1⟩ := he
  refine ⟨_, pt_cmp (pc_dnotin hu p1 (pe_fld (pe_var hN hv hdd hcd) hb)) hm, fun F0 H0 F H σ S Q q => ?_⟩
  refine q1 F0 H0 F H σ S _ fun v F' H' gr hd => ?_
  obtain ⟨e1, dx, kvs, h1, h2, h3, h4⟩ := (S.grow gr).ok i _ hi
  rw [dp_int hd]
  refine ⟨_, e1, g.p, g.C, dx, _, _, rfl, (S.grow gr).gr.h _ _ h1, c.cl, c.nK, gl_kept, g.d, _, rfl, DGet.k (k := Sum.inl k) ((S.grow gr).gr.h _ _ h2), _, rfl, ?_⟩
  rcases kv_val k h3 h4 with ⟨a1, a2⟩ | ⟨dd, vv, a1, a2, _⟩
  · rw [a2]
    rw [a1] at q
    exact q F' H' gr
  · rw [a2]
    rw [a1] at q
    exact q F' H' gr
theorem be_keptAt (i : Nat) {k : Int} (hi : env[i]? = some (.gnd g)) (c : GCls X.K g.C) (hu : X.A.units + 1 < cLine) (he : BE X e env (.ok (.int k))) (hk : kvGet g.kv k = some d) (hN : X.N[i]? = some x := by rfl) (hv : Vis X.env.scope x := by first | exact Or.inl rfl | exact Or.inr (Or.inl rfl) | exact Or.inr (Or.inr rfl)) (hdd : (x == ("__debug__" : Str)) = false := by decide)
    (hcd : (x == ("__classdict__" : Str)) = false := by decide) (hb : attributeBase (.Name x p2) "kept" X.env (eval (.Name x p2) X.env) = eval (.Name x p2) X.env := by rfl) (hs : NoSl e := by exact fun _ _ => rfl) :
    BE X (.Subscript (.Attribute (.Name x p2) "kept" p3) e pos) env (.ok d) := by
  obtain ⟨t, p1, q1⟩ := he
  refine ⟨_, pe_dget hu (pe_fld (pe_var hN hv hdd hcd) hb) p1 hs, fun F0 H0 F H σ S Q q => ?_⟩
  obtain ⟨e1, dx, kvs, h1, h2, h3, h4⟩ := S.ok i _ hi
  refine ⟨_, e1, g.p, g.C, dx, _, _, rfl, S.gr.h _ _ h1, c.cl, c.nK, gl_kept, ?_⟩
  refine q1 F0 H0 F H σ S _ fun v F' H' gr hd => ?_
  rw [dp_int hd]
  rcases kv_val k h3 h4 with ⟨a1, a2⟩ | ⟨dd, vv, a1, a2, a3⟩
  · rw [a1] at hk
    cases hk
  · rw [a1] at hk
    cases hk
    refine ⟨g.d, vv, rfl, ?_, q vv F' H' gr (dp_mono gr.f a3)⟩
    rw [← a2]
    exact DGet.k (k := Sum.inl k) (gr.h _ _ (S.gr.h _ _ h2))
theorem sorted_eq : ∀ {ys ks : List Int}, ys.Perm ks → ys.Pairwise (· ≤ ·) → ks.Pairwise (· < ·) → ys = ks
  | [], ks, h, _, _ => (List.nil_perm.mp h).symm
  | y :: r, [], h, _, _ => absurd h.length_eq (by simp)
  | y :: r, k :: t, h, h1, h2 => by
    have hy : y ∈ k :: t := h.mem_iff.mp List.mem_cons_self
    have hk : k ∈ y :: r := h.mem_iff.mpr List.mem_cons_self
    rw [List.pairwise_cons] at h1 h2
    have e : y = k := by
      rcases List.mem_cons.mp hy with q | q
      · exact q
      · rcases List.mem_cons.mp hk with z | z
        · exact z.symm
        · have := h1.1 k z
          have := h2.1 y q
          omega
    subst e
    rw [sorted_eq (List.Perm.cons_inv h) h1.2 h2.2]
theorem be_sortedKept (i : Nat) (hi : env[i]? = some (.gnd g)) (c : GCls X.K g.C) (hcalm : X.calm = true) (hso : (g.kv.map (·.1)).Pairwise (· < ·)) (hl : g.kv.length < 64) (hm : X.mg "sorted" = none) (hg : Gl X "sorted" := by rfl) (hN : X.N[i]? = some x := by rfl)
    (hv : Vis X.env.scope x := by first | exact Or.inl rfl | exact Or.inr (Or.inl rfl) | exact Or.inr (Or.inr rfl)) (hdd : (x == ("__debug__" : Str)) = false := by decide) (hcd : (x == ("__classdict__" : Str)) = false := by decide) (hb : attributeBase (.Name x p2) "kept" X.env (eval (.Name x p2) X.env) = eval (.Name x p2) X.env := by rfl)
    (hs : starEach [.Attribute (.Name x p2) "kept" p3] X.env = (false, eval (.Attribute (.Name x p2) "kept" p3) X.env) :: starEach [] X.env := by rfl) : BE X (.Call (.Name "sorted" p4) [.Attribute (.Name x p2) "kept" p3] [] pos) env (.fr (g.kv.map fun x => .int x.1)) := by
  refine ⟨_, pe_callB (call_sortedDI hcalm) hg hm (by decide +kernel) (pa_cons (pe_fld (pe_var hN hv hdd hcd) hb) pa_nil hs), fun F0 H0 F H σ S Q q => ?_⟩
  obtain ⟨e1, dx, kvs, h1, h2, h3, h4⟩ := S.ok i _ hi
  refine ⟨_, e1, g.p, g.C, dx, _, _, rfl, S.gr.h _ _ h1, c.cl, c.nK, gl_kept, g.d, kvs, g.kv.map (·.1), rfl, .inl (S.gr.h _ _ h2), ?_, by rw [List.length_map]; exact hl, fun ys p hp hs hl => ?_⟩
  · rw [h3, List.map_map]
    rfl
  · have e2 := sorted_eq hp hs hso
    subst e2
    refine q p _ F _ (gr_newH S.ex hl) hl (S.ex.free hl) upd_same ?_
    have e3 : (g.kv.map fun x => PyData.int x.1) = (g.kv.map (·.1)).map PyData.int := by
      rw [List.map_map]
      rfl
    rw [e3]
    exact dpAll_ints _

theorem be_dict : BE X (.Dict [] [] pos) env (.ok (.dict [])) := by
  refine ⟨_, pe_dnewK, fun F0 H0 F H σ S Q q => ?_⟩
  intro p hp
  exact q _ _ _ (gr_new S.ex hp) (.dct upd_same)
/-! ### calls -/
/-- an expression that is a ground -/
def BG (X : Cx) (e : Expr) (env : List Sl) (g : Gs) : Prop :=
  ∃ t : TE, PE X e t ∧ ∀ (F0 H0 F H : Hp) (σ : L2.St), Sd X.K F0 H0 F H σ env → GAt X.K F H0 g ∧ ∀ Q : VK, (∀ F' H', Gr F H F' H' → Q (.ref g.p) H') → t σ H Q
theorem bg_v (i : Nat) (hi : env[i]? = some (.gnd g)) (hN : X.N[i]? = some x := by rfl) (hv : Vis X.env.scope x := by first | exact Or.inl rfl | exact Or.inr (Or.inl rfl) | exact Or.inr (Or.inr rfl)) (hdd : (x == ("__debug__" : Str)) = false := by decide)
    (hcd : (x == ("__classdict__" : Str)) = false := by decide) : BG X (.Name x pos) env g := by
  refine ⟨_, pe_var hN hv hdd hcd, fun F0 H0 F H σ S => ?_⟩
  obtain ⟨e1, h⟩ := S.ok i _ hi
  exact ⟨h, fun Q q => ⟨_, e1, q F H (Gr.refl S.ex)⟩⟩
theorem bg_ix (i : Nat) {gs : List Gs} {k : Nat} (hi : env[i]? = some (.gnds gs)) (he : BE X e env (.ok (.int (k : Int)))) (hk : gs[k]? = some g) (hs : PlainIx e := by exact fun _ _ => rfl) (hN : X.N[i]? = some x := by rfl) (hv : Vis X.env.scope x := by first | exact Or.inl rfl | exact Or.inr (Or.inl rfl) | exact Or.inr (Or.inr rfl)) (hdd : (x == ("__debug__" : Str)) = false := by decide)
    (hcd : (x == ("__classdict__" : Str)) = false := by decide) : BG X (.Subscript (.Name x p2) e pos) env g := by
  obtain ⟨t, p1, q1⟩ := he
  refine ⟨_, pe_ix ix_seq (pe_var hN hv hdd hcd) p1 hs, fun F0 H0 F H σ S => ?_⟩
  obtain ⟨a, e1, h1, h2⟩ := S.ok i _ hi
  refine ⟨h2 g (List.mem_of_getElem? hk), fun Q q => ⟨_, e1, ?_⟩⟩
  refine q1 F0 H0 F H σ S _ fun v F' H' gr hd => ?_
  refine .inl ⟨a, _, (k : Int), .ref g.p, rfl, dp_int hd, .inl (.inl (gr.h _ _ (S.ex _ _ h1))), atI_nat ?_, q F' H' gr⟩
  rw [List.getElem?_map, hk]
  rfl
/-- argument lists -/
def BV (X : Cx) (es : List Expr) (env : List Sl) (as : List Av) : Prop :=
  ∃ t : TA, PA X es t ∧ ∀ (F0 H0 F H : Hp) (σ : L2.St), Sd X.K F0 H0 F H σ env → ∀ Q : List V → Hp → Prop, (∀ vs F' H', Gr F H F' H' → AvAll X.K F' H' vs as → Q vs H') → t σ H Q
variable {as : List Av}
theorem bv_nil : BV X [] env [] := ⟨_, pa_nil, fun _ _ F H _ S _ q => q [] F H (Gr.refl S.ex) .nil⟩
theorem bv_d (h : BE X e env (.ok d)) (hr : BV X es env as) (he : starEach (e :: es) X.env = (false, eval e X.env) :: starEach es X.env := by rfl) : BV X (e :: es) env (.d d :: as) := by
  obtain ⟨t, h1, h2⟩ := h
  obtain ⟨u, g1, g2⟩ := hr
  refine ⟨_, pa_cons h1 g1 he, fun F0 H0 F H σ S Q q => ?_⟩
  refine h2 F0 H0 F H σ S _ fun v F1 H1 gr1 hd1 => ?_
  refine g2 F0 H0 F1 H1 σ (S.grow gr1) _ fun vs F2 H2 gr2 hd2 => ?_
  exact q _ F2 H2 (gr1.trans gr2) (.cons (dp_mono gr2.f hd1) hd2)
theorem bv_g (h : BG X e env g) (hr : BV X es env as) (he : starEach (e :: es) X.env = (false, eval e X.env) :: starEach es X.env := by rfl) : BV X (e :: es) env (.g g :: as) := by
  obtain ⟨t, h1, h2⟩ := h
  obtain ⟨u, g1, g2⟩ := hr
  refine ⟨_, pa_cons h1 g1 he, fun F0 H0 F H σ S Q q => ?_⟩
  obtain ⟨k1, k2⟩ := h2 F0 H0 F H σ S
  refine k2 _ fun F1 H1 gr1 => ?_
  refine g2 F0 H0 F1 H1 σ (S.grow gr1) _ fun vs F2 H2 gr2 hd2 => ?_
  exact q _ F2 H2 (gr1.trans gr2) (.cons ⟨rfl, k1.mono (gr1.f.trans gr2.f) (S.gr.h.trans (gr1.h.trans gr2.h))⟩ hd2)
theorem bv_a (i : Nat) {p : Addr} (hi : env[i]? = some (.adr p)) (hr : BV X es env as) (hN : X.N[i]? = some x := by rfl) (hv : Vis X.env.scope x := by first | exact Or.inl rfl | exact Or.inr (Or.inl rfl) | exact Or.inr (Or.inr rfl)) (hdd : (x == ("__debug__" : Str)) = false := by decide)
    (hcd : (x == ("__classdict__" : Str)) = false := by decide) (he : starEach (.Name x p2 :: es) X.env = (false, eval (.Name x p2) X.env) :: starEach es X.env := by rfl) : BV X (.Name x p2 :: es) env (.a p :: as) := by
  obtain ⟨u, g1, g2⟩ := hr
  refine ⟨_, pa_cons (pe_var hN hv hdd hcd) g1 he, fun F0 H0 F H σ S Q q => ?_⟩
  refine ⟨_, S.ok i _ hi, ?_⟩
  exact g2 F0 H0 F H σ S _ fun vs F2 H2 gr2 hd2 => q _ F2 H2 gr2 (.cons rfl hd2)
theorem bv_ai (i : Nat) {ps : List Addr} {p : Addr} {k : Nat} (hi : env[i]? = some (.adrs ps)) (h : BE X e env (.ok (.int (k : Int)))) (hk : ps[k]? = some p) (hr : BV X es env as) (hs : PlainIx e := by exact fun _ _ => rfl) (hN : X.N[i]? = some x := by rfl) (hv : Vis X.env.scope x := by first | exact Or.inl rfl | exact Or.inr (Or.inl rfl) | exact Or.inr (Or.inr rfl)) (hdd : (x == ("__debug__" : Str)) = false := by decide)
    (hcd : (x == ("__classdict__" : Str)) = false := by decide) (he : starEach (.Subscript (.Name x p2) e p3 :: es) X.env = (false, eval (.Subscript (.Name x p2) e p3) X.env) :: starEach es X.env := by rfl) : BV X (.Subscript (.Name x p2) e p3 :: es) env (.a p :: as) := by
  obtain ⟨t, p1, q1⟩ := h
  obtain ⟨u, g1, g2⟩ := hr
  refine ⟨_, pa_cons (pe_ix ix_seq (pe_var hN hv hdd hcd) p1 hs) g1 he, fun F0 H0 F H σ S Q q => ?_⟩
  obtain ⟨a, e1, h1⟩ := S.ok i _ hi
  refine ⟨_, e1, ?_⟩
  refine q1 F0 H0 F H σ S _ fun v F1 H1 gr1 hd => ?_
  refine .inl ⟨a, _, (k : Int), .ref p, rfl, dp_int hd, .inl (.inl (gr1.h _ _ (S.ex _ _ h1))), atI_nat (by rw [List.getElem?_map, hk]; rfl), ?_⟩
  exact g2 F0 H0 F1 H1 σ (S.grow gr1) _ fun vs F2 H2 gr2 hd2 => q _ F2 H2 (gr1.trans gr2) (.cons rfl hd2)
end
/-- a def's promise where it changes nothing -/
def spV (K : PySem.W.Frag) (G : List Av → Rs → Prop) : Sp := fun vs H Q E => ∃ F as r, Ex F H ∧ AvAll K F H vs as ∧ G as r ∧ PostR K F H Q E r
/-- a def of the text; a method: what it keeps -/
structure DnS (P : Program) (w : World) (K : PySem.W.Frag) (mg : Str → Option Value) (base : Heap) (k : Nat) (x : Str) (sp : Sp) : Prop where
  ex : ∃ (f : Addr) (fd : FuncData) (ps : List Str), FnOk P w K mg base (L2.CX P w) k f fd ps sp ∧ mg x = some (.ref f) ∧ PySem.W.keepIn K (.ref f) = true ∧ Binds K fd ps []
structure MnS (P : Program) (w : World) (K : PySem.W.Frag) (mg : Str → Option Value) (base : Heap) (k : Nat) (C : Addr) (m : Str) (sp : Sp) : Prop where
  ex : ∃ (f : Addr) (fd : FuncData) (ps : List Str), FnOk P w K mg base (L2.CX P w) k f fd ps sp ∧ Meth K C m f ∧ Binds K fd ps []
  cl : Cls K C
  nf : ∀ (n c : Int) (d : Addr), (gFlds n c d).lookup m = none
section
variable {X : Cx} {W : WX} {T : Nat → Prop} {env : List Sl} {e o : Expr} {es : List Expr} {g : Gs} {d : D} {ds : List D} {pos p2 p3 p4 apos : Pos} {x m : Str} {as : List Av} {k k' : Nat} {sp : Sp} {G : List Av → Rs → Prop} {C : Addr}
theorem be_methV {pl : Sem Bool} (h : MnS X.prog X.w X.K X.mg X.base k g.C m sp) (hsp : ∀ vs H Q E, spV X.K G vs H Q E → sp vs H Q E) (hr : Room k' X.A) (hk : k ≤ k') (ho : BG X o env g) (hG : G [.g g] (.ok d))
    (ht : eval (.Call (.Attribute o m apos) [] [] pos) X.env = (do
      let ov ← eval o X.env
      standAt apos.atName
      let (f, first) ← holding [ov] (getMethod ov m pl)
      callWith pos f first (backTo pos (starEach [] X.env)) (backToKw pos (keywordEach [] X.env))) := by rfl) : BE X (.Call (.Attribute o m apos) [] [] pos) env (.ok d) := by
  obtain ⟨f, fd, ps, F, hm, hb⟩ := h.ex
  obtain ⟨t, h1, h2⟩ := ho
  refine ⟨_, pe_meth0 h1 h.cl hm F (hr.mono hk) hb .nil passL ht, fun F0 H0 F H σ S Q q => ?_⟩
  obtain ⟨k1, k2⟩ := h2 F0 H0 F H σ S
  refine k2 _ fun F1 H1 gr1 => ?_
  have k3 := k1.mono gr1.f (S.gr.h.trans gr1.h)
  obtain ⟨dx, kvs, a1, _⟩ := id k3
  exact ⟨g.p, dx, _, rfl, a1, h.nf _ _ _, hsp _ _ _ _ ⟨F1, [.g g], .ok d, gr1.s, .cons ⟨rfl, k3⟩ .nil, hG, PostV.back (o := .ok d) gr1 q⟩⟩
theorem be_methVF {pl : Sem Bool} (h : MnS X.prog X.w X.K X.mg X.base k g.C m sp) (hsp : ∀ vs H Q E, spV X.K G vs H Q E → sp vs H Q E) (hr : Room k' X.A) (hk : k ≤ k') (ho : BG X o env g) (hG : G [.g g] (.fr ds))
    (ht : eval (.Call (.Attribute o m apos) [] [] pos) X.env = (do
      let ov ← eval o X.env
      standAt apos.atName
      let (f, first) ← holding [ov] (getMethod ov m pl)
      callWith pos f first (backTo pos (starEach [] X.env)) (backToKw pos (keywordEach [] X.env))) := by rfl) : BE X (.Call (.Attribute o m apos) [] [] pos) env (.fr ds) := by
  obtain ⟨f, fd, ps, F, hm, hb⟩ := h.ex
  obtain ⟨t, h1, h2⟩ := ho
  refine ⟨_, pe_meth0 h1 h.cl hm F (hr.mono hk) hb .nil passL ht, fun F0 H0 F H σ S Q q => ?_⟩
  obtain ⟨k1, k2⟩ := h2 F0 H0 F H σ S
  refine k2 _ fun F1 H1 gr1 => ?_
  have k3 := k1.mono gr1.f (S.gr.h.trans gr1.h)
  obtain ⟨dx, kvs, a1, _⟩ := id k3
  exact ⟨g.p, dx, _, rfl, a1, h.nf _ _ _, hsp _ _ _ _ ⟨F1, [.g g], .fr ds, gr1.s, .cons ⟨rfl, k3⟩ .nil, hG, PostV.back (o := .fr ds) gr1 q⟩⟩
theorem be_callV (h : DnS X.prog X.w X.K X.mg X.base k x sp) (hsp : ∀ vs H Q E, spV X.K G vs H Q E → sp vs H Q E) (hr : Room k' X.A) (hk : k ≤ k') (ha : BV X (e :: es) env as) (hG : G as (.ok d)) (hg : Gl X x := by rfl) (hdb : (x == ("__debug__" : Str)) = false := by decide)
    (he : starEach (e :: es) X.env = (false, eval e X.env) :: starEach es X.env := by rfl) (hpl : (backTo pos (starEach es X.env)).any (·.1) = false := by rfl) : BE X (.Call (.Name x p2) (e :: es) [] pos) env (.ok d) := by
  obtain ⟨f, fd, ps, F, hm, kp, hb⟩ := h.ex
  obtain ⟨t, h1, h2⟩ := ha
  refine ⟨_, pe_call F (hr.mono hk) hg hm kp hb .nil passL h1 hdb he hpl, fun F0 H0 F H σ S Q q => ?_⟩
  refine h2 F0 H0 F H σ S _ fun vs F' H' gr hd => hsp _ _ _ _ ⟨F', as, .ok d, gr.s, by rw [List.append_nil]; exact hd, hG, PostV.back (o := .ok d) gr q⟩
/-- a method that raises, in a try's body -/
theorem pe_methW {E : L2.St → XK} {f : Addr} {fd : FuncData} {ps : List Str} {ta : TE} {t : TA} {pl : Sem Bool} (ho : PE X o ta) (c : Cls X.K C) (hm : Meth X.K C m f) (F : FnOk X.prog X.w X.K X.mg X.base (L2.CX X.prog X.w) k f fd ps sp) (hr : Room k X.A) (hb : Binds X.K fd ps [])
    (hx : ∀ σ, PassesAt (L2.CX X.prog X.w) X σ (E σ)) (ha : PA X (e :: es) t) (hst : starEach (e :: es) X.env = (false, eval e X.env) :: starEach es X.env := by rfl) (hpl : (backTo pos (starEach es X.env)).any (·.1) = false := by rfl)
    (ht : eval (.Call (.Attribute o m apos) (e :: es) [] pos) X.env = (do
      let ov ← eval o X.env
      standAt apos.atName
      let (f, first) ← holding [ov] (getMethod ov m pl)
      callWith pos f first (backTo pos (starEach (e :: es) X.env)) (backToKw pos (keywordEach [] X.env))) := by rfl) :
    PE X (.Call (.Attribute o m apos) (e :: es) [] pos) (fun σ H Q => ta σ H fun x H1 => ∃ a dx fs, x = .ref a ∧ H1 a = some (.ins C dx fs) ∧ fs.lookup m = none ∧ t σ H1 fun vs H2 => sp (x :: vs) H2 Q (E σ)) := by
  refine ⟨fun pn s0 σ0 H0 Q0 I0 h0 => ?_⟩
  refine PySem.W.methodCall_KW (pl := pl) (thn (ho.run pn s0 σ0 H0 _ I0 h0) fun w1 s1 hw => ?_) ht
  obtain ⟨x1, H1, I1, r1, a, dx, fs, e1, e2, l1, q1⟩ := hw
  subst e1
  have ew : w1 = Value.ref a := r1
  subst ew
  refine getmeth_ok I1 e2 c hm l1 ?_
  refine PySem.W.callWith_K (first := [.ref a]) (h₀ := X.base) I0.ok.mod.kin hm.kp (thn (ha.run pos pn s1 σ0 H1 _ I1 q1) fun us s2 hs2 => ?_) hst hpl
  obtain ⟨vs, H2, I2, r2, q2⟩ := hs2
  exact ⟨I2.kIn, run_fnS (us := .ref a :: us) (vs := .ref a :: vs) F hr hb (hx σ0) I2 (.cons rfl r2) q2⟩
theorem bx_methV {pl : Sem Bool} {D0 : Addr} (h : MnS X.prog X.w X.K X.mg X.base k g.C m sp) (hsp : ∀ vs H Q E, spV X.K G vs H Q E → sp vs H Q E) (tk : Takes X W) (hr : Room k' X.A) (hk : k ≤ k') (ho : BG X o env g) (ha : BV X (e :: es) env as) (hG : G (.g g :: as) (.er D0)) (hst : starEach (e :: es) X.env = (false, eval e X.env) :: starEach es X.env := by rfl) (hpl : (backTo pos (starEach es X.env)).any (·.1) = false := by rfl)
    (ht : eval (.Call (.Attribute o m apos) (e :: es) [] pos) X.env = (do
      let ov ← eval o X.env
      standAt apos.atName
      let (f, first) ← holding [ov] (getMethod ov m pl)
      callWith pos f first (backTo pos (starEach (e :: es) X.env)) (backToKw pos (keywordEach [] X.env))) := by rfl) : BX X W (.Call (.Attribute o m apos) (e :: es) [] pos) env D0 := by
  obtain ⟨f, fd, ps, F, hm, hb⟩ := h.ex
  obtain ⟨t, h1, h2⟩ := ho
  obtain ⟨u, g1, g2⟩ := ha
  refine ⟨_, pe_methW (E := WE W) h1 h.cl hm F (hr.mono hk) hb (fun σ => passAt tk σ) g1 hst hpl ht, fun F0 H0 F H σ S Q q => ?_⟩
  obtain ⟨k1, k2⟩ := h2 F0 H0 F H σ S
  refine k2 _ fun F1 H1 gr1 => ?_
  have k3 := k1.mono gr1.f (S.gr.h.trans gr1.h)
  obtain ⟨dx, kvs, a1, _⟩ := id k3
  refine ⟨g.p, dx, _, rfl, a1, h.nf _ _ _, ?_⟩
  refine g2 F0 H0 F1 H1 σ (S.grow gr1) _ fun vs F2 H2 gr2 hv => ?_
  exact hsp _ _ _ _ ⟨F2, .g g :: as, .er D0, gr2.s, .cons ⟨rfl, k3.mono gr2.f gr2.h⟩ hv, hG, fun F3 H3 gr3 => q F3 H3 ((gr1.trans gr2).trans gr3)⟩
end
/-! ### defs that change nothing -/
section
variable {P : Program} {w : World} {K : PySem.W.Frag} {mg : Str → Option Value} {base : Heap}
theorem okV_def {x qual : Str} {st : Stmt} {f : Addr} {fd : FuncData} {N ps : List Str} {k : Nat} {G : List Av → Rs → Prop} (F : Fun K x qual st f fd) (S : FnScope N ps (defScope st)) (len : ∀ as r, G as r → as.length = ps.length)
    (hbody : ∀ (cdv : Value) (A : Around) (outer : List Env) (s : Shared) (H : Hp) (E : XK), Cz (cxOf (L2.CX P w) P w K mg base N qual (defScope st) f cdv A outer s H E) (fun cls d _ H => E cls d H) k → ∀ as r, G as r →
      ∃ out, OutR r out ∧ BSs (cxOf (L2.CX P w) P w K mg base N qual (defScope st) f cdv A outer s H E) (fun cls d _ H => E cls d H) TAll (defBody st) (st0V N as) out) : FnOk P w K mg base (L2.CX P w) (k + 1) f fd ps (spV K G) := by
  refine F.okX S (fun vs H Q E h => ?_) (fun cdv A outer s H vs Q E hr h => ?_)
  · obtain ⟨F', as, r, _, hd, hg, _⟩ := h
    rw [hd.len]
    exact len as r hg
  · obtain ⟨F', as, r, ex, hd, hg, post⟩ := h
    obtain ⟨out, ho, t, h1, h2⟩ := hbody cdv A outer s H E ⟨passes_of rfl, takes_of rfl rfl rfl rfl, hr, rfl, S.nd⟩ as r hg
    refine ⟨t, h1, h2 F' H F' H _ _ (sd_startV ex hd) ?_⟩
    cases ho with
    | ok => exact post
    | lst => exact PostV.list post
    | fr => exact post
    | tf => exact post
    | non => exact fun F2 H2 σ2 _ _ S2 => post .non F2 H2 S2.gr .non
    | er => exact fun F2 H2 σ2 _ _ S2 => post F2 H2 S2.gr
end
end PD
/-! PD: a world of grounds and lists that a def changes -/
namespace PD
open PySem L2 PySem.Spec PyProof.Rows

/-! ### data without a list -/
mutual
def noL : PyData → Bool
  | .none => true
  | .bool _ => true
  | .int _ => true
  | .str _ => true
  | .list _ => false
  | .tuple ds => noLs ds
  | .dict _ => false
def noLs : List PyData → Bool
  | [] => true
  | d :: r => noL d && noLs r
end
mutual
theorem dp_noL {K : PySem.W.Frag} {F F2 H2 : Hp} (s2 : Ex F2 H2) (s : Ex F H2) : ∀ {v : V} {d : D}, Dp K F2 v d → noL d = true → Dp K (satT F H2) v d
  | _, _, .non, _ => .non
  | _, _, .bl b, _ => .bl b
  | _, _, .int i, _ => .int i
  | _, _, .str x, _ => .str x
  | _, _, .lst h a, q => by simp [noL] at q
  | _, _, .tup h a, q => .tup (satT_tup s (s2 _ _ h)) (dpAll_noL s2 s a (by simpa [noL] using q))
  | _, _, .dct _, q => by simp [noL] at q
theorem dpAll_noL {K : PySem.W.Frag} {F F2 H2 : Hp} (s2 : Ex F2 H2) (s : Ex F H2) : ∀ {vs : List V} {ds : List D}, DpAll K F2 vs ds → noLs ds = true → DpAll K (satT F H2) vs ds
  | _, _, .nil, _ => .nil
  | _, _, .cons h a, q => by
    simp only [noLs, Bool.and_eq_true] at q
    exact .cons (dp_noL s2 s h q.1) (dpAll_noL s2 s a q.2)
end
theorem noLs_of {ds : List PyData} (h : ∀ d, d ∈ ds → noL d = true) : noLs ds = true := by
  induction ds with
  | nil => rfl
  | cons d r ih =>
    simp only [noLs, Bool.and_eq_true]
    exact ⟨h d List.mem_cons_self, ih fun x hx => h x (List.mem_cons_of_mem _ hx)⟩

/-! ### the world -/
inductive Wc where
  | g (x : Gs)
  | l (p : Addr) (ds : List D)
def wcFoot : Wc → List Addr
  | .g x => [x.p, x.d]
  | .l p _ => [p]
def foots (ω : List Wc) : List Addr := ω.flatMap wcFoot
def WcOk (K : PySem.W.Frag) (F H : Hp) : Wc → Prop
  | .g x => GAt K F H x
  | .l p ds => LAt K F H p ds
def WOk (K : PySem.W.Frag) (F H : Hp) (ω : List Wc) : Prop := (∀ c, c ∈ ω → WcOk K F H c) ∧ ∀ a, a ∈ foots ω → F a = none
section
variable {K : PySem.W.Frag} {F0 H0 F H F' H' : Hp} {σ : L2.St} {env envv : List Sl} {ω ωc ωc' ωr : List Wc}
theorem foot_ob {c : Wc} {a : Addr} (h : WcOk K F H c) (ha : a ∈ wcFoot c) : ∃ o, H a = some o ∧ ∀ xs, o ≠ .tup xs := by
  cases c with
  | g x =>
    obtain ⟨dx, kvs, h1, h2, _⟩ := h
    simp only [wcFoot, List.mem_cons, List.not_mem_nil, or_false] at ha
    rcases ha with rfl | rfl
    · exact ⟨_, h1, fun _ z => nomatch z⟩
    · exact ⟨_, h2, fun _ z => nomatch z⟩
  | l p ds =>
    obtain ⟨xs, h1, _⟩ := h
    simp only [wcFoot, List.mem_cons, List.not_mem_nil, or_false] at ha
    subst ha
    exact ⟨_, h1, fun _ z => nomatch z⟩
theorem foots_mem {a : Addr} : a ∈ foots ω ↔ ∃ c, c ∈ ω ∧ a ∈ wcFoot c := List.mem_flatMap
theorem wok_ob (h : WOk K F H ω) {a : Addr} (ha : a ∈ foots ω) : ∃ o, H a = some o ∧ ∀ xs, o ≠ .tup xs := by
  obtain ⟨c, hc, hm⟩ := foots_mem.mp ha
  exact foot_ob (h.1 c hc) hm
theorem WcOk.on {c : Wc} (h : WcOk K F H c) (e1 : Ex F F') (e2 : ∀ a o, a ∈ wcFoot c → H a = some o → H' a = some o) : WcOk K F' H' c := by
  cases c with
  | g x =>
    obtain ⟨dx, kvs, h1, h2, h3, h4⟩ := h
    exact ⟨dx, kvs, e2 _ _ (by simp [wcFoot]) h1, e2 _ _ (by simp [wcFoot]) h2, h3, dpAll_mono e1 h4⟩
  | l p ds =>
    obtain ⟨xs, h1, h2⟩ := h
    exact ⟨xs, e2 _ _ (by simp [wcFoot]) h1, dpAll_mono e1 h2⟩
theorem WOk.grow (h : WOk K F H ω) (g : Gr F H F' H') : WOk K F' H' ω := by
  refine ⟨fun c hc => (h.1 c hc).on g.f fun a o _ => g.h a o, fun a ha => ?_⟩
  obtain ⟨o, h1, h2⟩ := wok_ob h ha
  exact own_stays g (h.2 a ha) h1 h2
theorem WOk.perm (h : WOk K F H ω) (p : ω.Perm ωc) : WOk K F H ωc :=
  ⟨fun c hc => h.1 c (p.mem_iff.mpr hc), fun a ha => h.2 a (by
    obtain ⟨c, hc, hm⟩ := foots_mem.mp ha
    exact foots_mem.mpr ⟨c, p.mem_iff.mpr hc, hm⟩)⟩
theorem foots_app (a b : List Wc) : foots (a ++ b) = foots a ++ foots b := by
  unfold foots
  rw [List.flatMap_append]
theorem foots_perm (p : ω.Perm ωc) : (foots ω).Perm (foots ωc) := by
  unfold foots
  exact p.flatMap_right _
/-- what a frame knows -/
structure WSd (K : PySem.W.Frag) (F0 H0 F H : Hp) (σ : L2.St) (env : List Sl) (ω : List Wc) : Prop where
  s : Sd K F0 H0 F H σ env
  w : WOk K F H ω
  nd : (foots ω).Nodup
  h0 : ∀ a, a ∈ foots ω → H0 a = none
  ow : ∀ (i : Nat) (s : Sl) (a : Addr), env[i]? = some s → s.isOwn = true → σ[i]? = some (some (.ref a)) → a ∉ foots ω
theorem WSd.grow (S : WSd K F0 H0 F H σ env ω) (g : Gr F H F' H') : WSd K F0 H0 F' H' σ env ω := ⟨S.s.grow g, S.w.grow g, S.nd, S.h0, S.ow⟩
theorem WSd.perm (S : WSd K F0 H0 F H σ env ω) (p : ω.Perm ωc) : WSd K F0 H0 F H σ env ωc :=
  ⟨S.s, S.w.perm p, (foots_perm p).nodup_iff.mp S.nd, fun a ha => S.h0 a ((foots_perm p).mem_iff.mpr ha), fun i s a e1 e2 e3 q => S.ow i s a e1 e2 e3 ((foots_perm p).mem_iff.mpr q)⟩
theorem WSd.set_v {i : Nat} {v : V} {d : D} (S : WSd K F0 H0 F H σ env ω) (h : Dp K F v d) : WSd K F0 H0 F H (σ.set i (some v)) (env.set i (.v d)) ω := by
  refine ⟨S.s.set_v h, S.w, S.nd, S.h0, fun j s a e1 e2 e3 => ?_⟩
  by_cases hj : i = j
  · subst hj
    by_cases hl : i < env.length
    · rw [List.getElem?_set_self hl] at e1
      cases e1
      cases e2
    · rw [List.getElem?_eq_none (by simpa using hl)] at e1
      cases e1
  · rw [List.getElem?_set_ne hj] at e1 e3
    exact S.ow j s a e1 e2 e3
theorem WSd.drop {i : Nat} {o : Option V} (S : WSd K F0 H0 F H σ env ω) : WSd K F0 H0 F H (σ.set i o) (env.set i .no) ω := by
  refine ⟨S.s.drop, S.w, S.nd, S.h0, fun j s a e1 e2 e3 => ?_⟩
  by_cases hj : i = j
  · subst hj
    by_cases hl : i < env.length
    · rw [List.getElem?_set_self hl] at e1
      cases e1
      cases e2
    · rw [List.getElem?_eq_none (by simpa using hl)] at e1
      cases e1
  · rw [List.getElem?_set_ne hj] at e1 e3
    exact S.ow j s a e1 e2 e3
theorem WSd.forget {i : Nat} (S : WSd K F0 H0 F H σ env ω) : WSd K F0 H0 F H σ (env.set i .no) ω := by
  refine ⟨S.s.forget, S.w, S.nd, S.h0, fun j s a e1 e2 e3 => ?_⟩
  by_cases hj : i = j
  · subst hj
    by_cases hl : i < env.length
    · rw [List.getElem?_set_self hl] at e1
      cases e1
      cases e2
    · rw [List.getElem?_eq_none (by simpa using hl)] at e1
      cases e1
  · rw [List.getElem?_set_ne hj] at e1
    exact S.ow j s a e1 e2 e3

/-! ### from the world to the plain: what stands in it is as if it stood at the entry -/
def seen (M : List Addr) (H0 H : Hp) : Hp := fun a => if a ∈ M then H a else H0 a
theorem seen_in {M : List Addr} {a : Addr} (h : a ∈ M) : seen M H0 H a = H a := by
  unfold seen
  rw [if_pos h]
theorem seen_out {M : List Addr} {a : Addr} (h : a ∉ M) : seen M H0 H a = H0 a := by
  unfold seen
  rw [if_neg h]
theorem seen_ex {M : List Addr} (h : ∀ a, a ∈ M → H0 a = none) : Ex H0 (seen M H0 H) := fun a o e => by
  by_cases q : a ∈ M
  · rw [h a q] at e
    cases e
  · rw [seen_out q]
    exact e
def Sl.isVw : Sl → Bool
  | .gnd _ => true
  | .gnds _ => true
  | .lstv _ _ => true
  | .lsts _ => true
  | _ => false
theorem WSd.up (S : WSd K F0 H0 F H σ env ω) : Sd K F0 (seen (foots ω) H0 H) F H σ env := by
  have ex := seen_ex (H := H) S.h0
  refine ⟨⟨S.s.gr.f, fun a o e => ?_, S.s.gr.s, fun a o e1 e2 => ?_⟩, S.s.len, fun i s e => ?_, S.s.di⟩
  · by_cases q : a ∈ foots ω
    · rw [seen_in q] at e
      exact e
    · rw [seen_out q] at e
      exact S.s.gr.h a o e
  · by_cases q : a ∈ foots ω
    · rw [S.w.2 a q] at e2
      cases e2
    · rw [seen_out q]
      exact S.s.gr.n a o e1 e2
  · have z := S.s.ok i s e
    cases s with
    | no => trivial
    | v d => exact z
    | adr a => exact z
    | adrs a => exact z
    | gnd g => exact ⟨z.1, z.2.mono (Same.refl _) ex⟩
    | gnds gs =>
      obtain ⟨a, z1, z2, z3⟩ := z
      exact ⟨a, z1, z2, fun g hg => (z3 g hg).mono (Same.refl _) ex⟩
    | lstv p ds => exact ⟨z.1, z.2.mono (Same.refl _) ex⟩
    | lsts ls =>
      obtain ⟨a, z1, z2, z3⟩ := z
      exact ⟨a, z1, z2, fun g hg => (z3 g hg).mono (Same.refl _) ex⟩
    | own ds =>
      obtain ⟨a, xs, z1, z2, z3⟩ := z
      exact ⟨a, xs, z1, by rw [seen_out (S.ow i _ a e rfl z1)]; exact z2, z3⟩
    | keys ks =>
      obtain ⟨a, z1, z2, z3⟩ := z
      exact ⟨a, z1, by rw [seen_out (S.ow i _ a e rfl z1)]; exact z2, z3⟩
theorem WSd.down {F1 H1 : Hp} {σ1 : L2.St} {env1 : List Sl} (S : WSd K F0 H0 F H σ env ω) (e : Ex F F1) (S1 : Sd K F0 (seen (foots ω) H0 H) F1 H1 σ1 env1) (hp : env1.all (fun s => !s.isVw) = true) : WSd K F0 H0 F1 H1 σ1 env1 ω := by
  have ex := seen_ex (H := H) S.h0
  have hh : ∀ a o, a ∈ foots ω → H a = some o → H1 a = some o := fun a o ha h => S1.gr.h a o (by rw [seen_in ha]; exact h)
  have hf : ∀ a, a ∈ foots ω → F1 a = none := fun a ha => by
    obtain ⟨o, h1, h2⟩ := wok_ob S.w ha
    cases q : F1 a with
    | none => rfl
    | some u =>
      have f0 : F0 a = none := by
        cases z : F0 a with
        | none => rfl
        | some y =>
          have := S.s.gr.f a y z
          rw [S.w.2 a ha] at this
          cases this
      rcases S1.gr.n a u f0 q with z | ⟨xs, z⟩
      · rw [seen_in ha, h1] at z
        cases z
      · have := S1.gr.s a u q
        rw [hh a o ha h1] at this
        cases this
        exact absurd z (h2 xs)
  have out : ∀ a, seen (foots ω) H0 H a = none → a ∉ foots ω := fun a h q => by
    obtain ⟨o, h1, _⟩ := wok_ob S.w q
    rw [seen_in q, h1] at h
    cases h
  have ownOut : ∀ (i : Nat) (s : Sl) (a : Addr), env1[i]? = some s → s.isOwn = true → σ1[i]? = some (some (.ref a)) → a ∉ foots ω := fun i s a e1 e2 e3 => by
    have z := S1.ok i s e1
    cases s with
    | own ds =>
      obtain ⟨b, xs, z1, z2, _⟩ := z
      rw [e3] at z1
      cases z1
      exact out _ z2
    | keys ks =>
      obtain ⟨b, z1, z2, _⟩ := z
      rw [e3] at z1
      cases z1
      exact out _ z2
    | _ => cases e2
  refine ⟨⟨⟨S1.gr.f, S1.gr.h |> fun z => ex.trans z, S1.gr.s, fun a o e1 e2 => ?_⟩, S1.len, fun i s e1 => ?_, S1.di⟩, ⟨fun c hc => (S.w.1 c hc).on e fun a o ha => hh a o (foots_mem.mpr ⟨c, hc, ha⟩), hf⟩, S.nd, S.h0, ownOut⟩
  · by_cases q : a ∈ foots ω
    · rw [hf a q] at e2
      cases e2
    · have := S1.gr.n a o e1 e2
      rw [seen_out q] at this
      exact this
  · have hv := List.all_eq_true.mp hp s (List.mem_of_getElem? e1)
    have z := S1.ok i s e1
    cases s with
    | no => trivial
    | v d => exact z
    | adr a => exact z
    | adrs a => exact z
    | gnd g => cases hv
    | gnds gs => cases hv
    | lstv p ds => cases hv
    | lsts ls => cases hv
    | own ds =>
      obtain ⟨a, xs, z1, z2, z3⟩ := z
      exact ⟨a, xs, z1, by have := z2; rw [seen_out (out a z2)] at this; exact this, z3⟩
    | keys ks =>
      obtain ⟨a, z1, z2, z3⟩ := z
      exact ⟨a, z1, by have := z2; rw [seen_out (out a z2)] at this; exact this, z3⟩

/-! ### all as if it were frozen -/
inductive VwA (ω : List Wc) : Sl → Sl → Prop
  | no {s : Sl} : VwA ω s .no
  | v {d : D} : VwA ω (.v d) (.v d)
  | own {ds : List D} : VwA ω (.own ds) (.v (.list ds))
  | adr {p : Addr} : VwA ω (.adr p) (.adr p)
  | adrs {ps : List Addr} : VwA ω (.adrs ps) (.adrs ps)
  | g {x : Gs} (h : Wc.g x ∈ ω) : VwA ω (.adr x.p) (.gnd x)
  | l {p : Addr} {ds : List D} (h : Wc.l p ds ∈ ω) : VwA ω (.adr p) (.v (.list ds))
  | gs {xs : List Gs} (h : ∀ x, x ∈ xs → Wc.g x ∈ ω) : VwA ω (.adrs (xs.map (·.p))) (.gnds xs)
  | ls {ls : List (Addr × List D)} (h : ∀ x, x ∈ ls → Wc.l x.1 x.2 ∈ ω) : VwA ω (.adrs (ls.map (·.1))) (.v (.list (ls.map fun x => .list x.2)))
inductive VwE (ω : List Wc) : List Sl → List Sl → Prop
  | nil : VwE ω [] []
  | cons {s t : Sl} {r u : List Sl} (h : VwA ω s t) (k : VwE ω r u) : VwE ω (s :: r) (t :: u)
theorem VwE.len : ∀ {r u : List Sl}, VwE ω r u → r.length = u.length
  | _, _, .nil => rfl
  | _, _, .cons _ k => by simp [VwE.len k]
theorem VwE.get : ∀ {r u : List Sl} {i : Nat} {t : Sl}, VwE ω r u → u[i]? = some t → ∃ s, r[i]? = some s ∧ VwA ω s t
  | _, _, i, t, .nil, e => by simp at e
  | _, _, 0, t, .cons h _, e => by
    have e : _ = t := Option.some.inj e
    subst e
    exact ⟨_, rfl, h⟩
  | _, _, i + 1, t, .cons _ k, e => by
    obtain ⟨s, e1, h⟩ := VwE.get (i := i) (t := t) k (by simpa using e)
    exact ⟨s, by simpa using e1, h⟩
theorem lists_dp (S : WOk K F H ω) (ex : Ex F H) : ∀ (ls : List (Addr × List D)), (∀ x, x ∈ ls → Wc.l x.1 x.2 ∈ ω) → DpAll K H (ls.map fun l => V.ref l.1) (ls.map fun x => .list x.2)
  | [], _ => .nil
  | x :: r, h => by
    obtain ⟨xs, h1, h2⟩ := S.1 _ (h x List.mem_cons_self)
    exact .cons (.lst (.inl (.inl h1)) (dpAll_mono ex h2)) (lists_dp S ex r fun y hy => h y (List.mem_cons_of_mem _ hy))
theorem WSd.all (S : WSd K F0 H0 F H σ env ω) (v : VwE ω env envv) : Sd K H H H H σ envv := by
  have ex := S.s.ex
  have key : ∀ (i : Nat) (t : Sl), envv[i]? = some t → SlOk K H H H (σ[i]?) t ∧ t.isOwn = false := fun i t e => by
    obtain ⟨s, e1, h⟩ := v.get e
    have z := S.s.ok i s e1
    cases h with
    | no => exact ⟨trivial, rfl⟩
    | v =>
      obtain ⟨x, z1, z2⟩ := z
      exact ⟨⟨x, z1, dp_mono ex z2⟩, rfl⟩
    | own =>
      obtain ⟨a, xs, z1, _, _, z4, z5⟩ := z
      exact ⟨⟨_, z1, .lst (.inl (.inl z4)) (dpAll_mono ex z5)⟩, rfl⟩
    | adr => exact ⟨z, rfl⟩
    | adrs =>
      obtain ⟨a, z1, z2⟩ := z
      exact ⟨⟨a, z1, ex _ _ z2⟩, rfl⟩
    | g hx =>
      have k := S.w.1 _ hx
      exact ⟨⟨z, k.mono ex (Same.refl _)⟩, rfl⟩
    | l hx =>
      obtain ⟨xs, k1, k2⟩ := S.w.1 _ hx
      exact ⟨⟨_, z, .lst (.inl (.inl k1)) (dpAll_mono ex k2)⟩, rfl⟩
    | gs hx =>
      obtain ⟨a, z1, z2⟩ := z
      refine ⟨⟨a, z1, ?_, fun g hg => (S.w.1 _ (hx g hg)).mono ex (Same.refl _)⟩, rfl⟩
      rw [ex _ _ z2, List.map_map]
      rfl
    | ls hx =>
      obtain ⟨a, z1, z2⟩ := z
      have e2 := ex _ _ z2
      rw [List.map_map] at e2
      exact ⟨⟨_, z1, .lst (.inl (.inl e2)) (lists_dp S.w ex _ hx)⟩, rfl⟩
  refine ⟨Gr.refl (Same.refl _), by rw [S.s.len]; exact v.len, fun i t e => (key i t e).1, fun i j s t a e1 e2 h1 h2 _ _ => ?_⟩
  rw [(key i s e1).2] at h1
  cases h1
/-- what is answered there, here -/
theorem all_gr {v : V} {d : D} (s : Ex F H) (g : Gr H H F' H') (hd : Dp K F' v d) (hn : noL d = true) : Gr F H (satT F H') H' ∧ Dp K (satT F H') v d := by
  have s' : Ex F H' := s.trans g.h
  exact ⟨(⟨Same.refl _, g.h, s', fun a o h0 h1 => by rw [h0] at h1; cases h1⟩ : Gr F H F H').trans (satT_gr s'), dp_noL g.s s' hd hn⟩
end

/-! ### statements that change the world -/
inductive WO where
  | nx (env : List Sl) (ω : List Wc)
  | rt (d : D) (ω : List Wc)
def WPost (K : PySem.W.Frag) (F0 H0 F : Hp) (D : Ends) : WO → Prop
  | .nx env ω => ∀ F' H' σ', Ex F F' → WSd K F0 H0 F' H' σ' env ω → D.nx σ' H'
  | .rt d ω => ∀ v F' H', Gr F0 H0 F' H' → WOk K F' H' ω → Dp K F' v d → D.rt v H'
theorem WPost.fwd {K : PySem.W.Frag} {F0 H0 F F1 : Hp} {D : Ends} {o : WO} (e : Ex F F1) (h : WPost K F0 H0 F D o) : WPost K F0 H0 F1 D o := by
  cases o with
  | nx env ω => exact fun F' H' σ' e' S => h F' H' σ' (e.trans e') S
  | rt d ω => exact h
def WB (X : Cx) (st : Stmt) (env : List Sl) (ω : List Wc) (out : WO) : Prop :=
  ∃ t : TS, PS X st t ∧ ∀ (F0 H0 F H : Hp) (σ : L2.St) (D : Ends), WSd X.K F0 H0 F H σ env ω → WPost X.K F0 H0 F D out → t D σ H
def WBs (X : Cx) (st : List Stmt) (env : List Sl) (ω : List Wc) (out : WO) : Prop :=
  ∃ t : TS, PSs X st t ∧ ∀ (F0 H0 F H : Hp) (σ : L2.St) (D : Ends), WSd X.K F0 H0 F H σ env ω → WPost X.K F0 H0 F D out → t D σ H
/-- an expression that changes the world -/
def WE (X : Cx) (e : Expr) (env : List Sl) (ω : List Wc) (d : D) (ω' : List Wc) : Prop :=
  ∃ t : TE, PE X e t ∧ ∀ (F0 H0 F H : Hp) (σ : L2.St), WSd X.K F0 H0 F H σ env ω → ∀ Q : VK, (∀ v F' H', Ex F F' → WSd X.K F0 H0 F' H' σ env ω' → Dp X.K F' v d → Q v H') → t σ H Q
def WT (X : Cx) (e : Expr) (env : List Sl) (ω : List Wc) (b : Bool) (ω' : List Wc) : Prop :=
  ∃ t : TT, PT X e t ∧ ∀ (F0 H0 F H : Hp) (σ : L2.St), WSd X.K F0 H0 F H σ env ω → ∀ Q : Bool → Hp → Prop, (∀ F' H', Ex F F' → WSd X.K F0 H0 F' H' σ env ω' → Q b H') → t σ H Q
abbrev W0 : WX := fun _ _ _ _ => False
section
variable {X : Cx} {env env1 envv : List Sl} {ω ω1 ω2 ωc ωc' ωr : List Wc} {st : Stmt} {rest A B : List Stmt} {out : WO} {e a b : Expr} {es : List Expr} {d : D} {ds : List D} {o : Vr} {pos p2 p3 p4 apos : Pos} {b1 b2 : Bool} {x m : Str} {as : List Av}
theorem wbs_nil : WBs X [] env ω (.nx env ω) := ⟨_, pss_nil, fun F0 H0 F H σ D S p => p F H σ (Same.refl _) S⟩
theorem wbs_cons (h1 : WB X st env ω (.nx env1 ω1)) (h2 : WBs X rest env1 ω1 out) : WBs X (st :: rest) env ω out := by
  obtain ⟨t, p1, q1⟩ := h1
  obtain ⟨u, p2, q2⟩ := h2
  refine ⟨_, pss_cons p1 p2, fun F0 H0 F H σ D S p => ?_⟩
  exact q1 F0 H0 F H σ { D with nx := u D } S fun F' H' σ' e S' => q2 F0 H0 F' H' σ' D S' (p.fwd e)
theorem wbs_one (h1 : WB X st env ω out) : WBs X [st] env ω out := by
  obtain ⟨t, p1, q1⟩ := h1
  exact ⟨_, pss_one p1, q1⟩
theorem wbs_rt (h1 : WB X st env ω (.rt d ω1)) : WBs X (st :: rest) env ω (.rt d ω1) := by
  obtain ⟨t, p1, q1⟩ := h1
  exact ⟨_, pss_cons p1 (u := fun _ _ _ => False) ⟨fun _ _ _ _ _ _ h => h.elim⟩, fun F0 H0 F H σ D S p => q1 F0 H0 F H σ _ S p⟩
theorem WBs.perm (h : WBs X A env ωc out) (p : ω.Perm ωc) : WBs X A env ω out := by
  obtain ⟨t, p1, q1⟩ := h
  exact ⟨t, p1, fun F0 H0 F H σ D S k => q1 F0 H0 F H σ D (S.perm p) k⟩
theorem WBs.permN (h : WBs X A env ω (.nx env1 ω1)) (p : ω1.Perm ω2) : WBs X A env ω (.nx env1 ω2) := by
  obtain ⟨t, p1, q1⟩ := h
  exact ⟨t, p1, fun F0 H0 F H σ D S k => q1 F0 H0 F H σ D S fun F' H' σ' e S' => k F' H' σ' e (S'.perm p)⟩
theorem WB.perm (h : WB X st env ωc out) (p : ω.Perm ωc) : WB X st env ω out := by
  obtain ⟨t, p1, q1⟩ := h
  exact ⟨t, p1, fun F0 H0 F H σ D S k => q1 F0 H0 F H σ D (S.perm p) k⟩
theorem WB.permN (h : WB X st env ω (.nx env1 ω1)) (p : ω1.Perm ω2) : WB X st env ω (.nx env1 ω2) := by
  obtain ⟨t, p1, q1⟩ := h
  exact ⟨t, p1, fun F0 H0 F H σ D S k => q1 F0 H0 F H σ D S fun F' H' σ' e S' => k F' H' σ' e (S'.perm p)⟩
theorem WB.to {out' : WO} (h : WB X st env ω out) (q : out = out') : WB X st env ω out' := q ▸ h
theorem WBs.to {out' : WO} (h : WBs X A env ω out) (q : out = out') : WBs X A env ω out' := q ▸ h
theorem WBs.fg (i : Nat) (h : WBs X A env ω (.nx env1 ω1)) : WBs X A env ω (.nx (env1.set i .no) ω1) := by
  obtain ⟨t, p1, q1⟩ := h
  exact ⟨t, p1, fun F0 H0 F H σ D S p => q1 F0 H0 F H σ D S fun F' H' σ' e S' => p F' H' σ' e S'.forget⟩
/-- a statement that has nothing to do with the world -/
theorem wb_lift (h : BS X W0 TAll st env (.nx env1)) (hp : env1.all (fun s => !s.isVw) = true := by rfl) : WB X st env ω (.nx env1 ω) := by
  obtain ⟨t, p1, q1⟩ := h
  exact ⟨t, p1, fun F0 H0 F H σ D S p => q1 F0 (seen (foots ω) H0 H) F H σ D S.up fun F' H' σ' e k S' => p F' H' σ' e (S.down e S' hp)⟩
/-- x = e, e reads the world; no list in the answer -/
theorem wb_setA (i : Nat) {pos' : Pos} (C : X.N.Nodup) (v : VwE ω env envv) (h : BE X e envv (.ok d)) (hn : noL d = true) (hi : X.N[i]? = some x := by rfl) (hx : Loc X.env.scope x := by first | exact Or.inl rfl | exact Or.inr rfl) (hs : swapsWith e (some (.Name x pos')) pos.line X.env = pure false := by rfl)
    (hf : X.fn x = true ∨ X.env.scope.names.lookup x = some .local := by first | exact .inl rfl | exact .inr rfl | assumption) : WB X (.Assign [.Name x pos'] e pos) env ω (.nx (env.set i (.v d)) ω) := by
  obtain ⟨t, p1, q1⟩ := h
  refine ⟨_, ps_set C hi hx p1 hs hf, fun F0 H0 F H σ D S p => ?_⟩
  refine q1 H H H H σ (S.all v) _ fun y F' H' g hd => ?_
  obtain ⟨g2, hd2⟩ := all_gr S.s.ex g hd hn
  exact p _ H' _ g2.f ((S.grow g2).set_v hd2)
/-- .. a new list of such -/
theorem wb_setL (i : Nat) {pos' : Pos} (C : X.N.Nodup) (v : VwE ω env envv) (h : BE X e envv (.fr ds)) (hn : noLs ds = true) (hi : X.N[i]? = some x := by rfl) (hx : Loc X.env.scope x := by first | exact Or.inl rfl | exact Or.inr rfl) (hs : swapsWith e (some (.Name x pos')) pos.line X.env = pure false := by rfl)
    (hf : X.fn x = true ∨ X.env.scope.names.lookup x = some .local := by first | exact .inl rfl | exact .inr rfl | assumption) : WB X (.Assign [.Name x pos'] e pos) env ω (.nx (env.set i (.v (.list ds))) ω) := by
  obtain ⟨t, p1, q1⟩ := h
  refine ⟨_, ps_set C hi hx p1 hs hf, fun F0 H0 F H σ D S p => ?_⟩
  refine q1 H H H H σ (S.all v) _ fun y xs F' H' g hp hf hh hd => ?_
  have s' : Ex F H' := S.s.ex.trans g.h
  have g2 : Gr F H (satT F H') H' := (⟨Same.refl _, g.h, s', fun a o h0 h1 => by rw [h0] at h1; cases h1⟩ : Gr F H F H').trans (satT_gr s')
  have hd2 := dpAll_noL g.s s' hd hn
  have fy : satT F H' y = none := by
    unfold satT
    rw [S.s.ex.free hp, hh]
  have g3 := gr_freeze g2 hp fy hh
  exact p _ H' _ g3.f ((S.grow g3).set_v (.lst (.inl (.inl upd_same)) (dpAll_mono (Ex.new fy) hd2)))
/-- .. of no further use -/
theorem wb_setNo (i : Nat) {pos' : Pos} (C : X.N.Nodup) (v : VwE ω env envv) (h : BE X e envv (.ok d)) (hi : X.N[i]? = some x := by rfl) (hx : Loc X.env.scope x := by first | exact Or.inl rfl | exact Or.inr rfl) (hs : swapsWith e (some (.Name x pos')) pos.line X.env = pure false := by rfl)
    (hf : X.fn x = true ∨ X.env.scope.names.lookup x = some .local := by first | exact .inl rfl | exact .inr rfl | assumption) : WB X (.Assign [.Name x pos'] e pos) env ω (.nx (env.set i .no) ω) := by
  obtain ⟨t, p1, q1⟩ := h
  refine ⟨_, ps_set C hi hx p1 hs hf, fun F0 H0 F H σ D S p => ?_⟩
  refine q1 H H H H σ (S.all v) _ fun y F' H' g hd => ?_
  have s' : Ex F H' := S.s.ex.trans g.h
  have g2 : Gr F H F H' := ⟨Same.refl _, g.h, s', fun a o h0 h1 => by rw [h0] at h1; cases h1⟩
  exact p _ H' _ g2.f (S.grow g2).drop
theorem wb_ifT (v : VwE ω env envv) (hc : BT X e envv b1) (hb : b1 = true) (h : WBs X A env ω out) : WB X (.If e A B pos) env ω out := by
  subst hb
  obtain ⟨t, p1, q1⟩ := hc
  obtain ⟨u, p2, q2⟩ := h
  refine ⟨_, ps_if p1 p2 (u := fun _ _ _ => False) ⟨fun _ _ _ _ _ _ h => h.elim⟩, fun F0 H0 F H σ D S p => ?_⟩
  refine q1 H H H H σ (S.all v) _ fun F' H' g => iteT ?_
  have g2 : Gr F H F H' := ⟨Same.refl _, g.h, S.s.ex.trans g.h, fun a o h0 h1 => by rw [h0] at h1; cases h1⟩
  exact q2 F0 H0 F H' σ D (S.grow g2) p
theorem wb_ifF (v : VwE ω env envv) (hc : BT X e envv b1) (hb : b1 = false) (h : WBs X B env ω out) : WB X (.If e A B pos) env ω out := by
  subst hb
  obtain ⟨t, p1, q1⟩ := hc
  obtain ⟨u, p2, q2⟩ := h
  refine ⟨_, ps_if p1 (t := fun _ _ _ => False) ⟨fun _ _ _ _ _ _ h => h.elim⟩ p2, fun F0 H0 F H σ D S p => ?_⟩
  refine q1 H H H H σ (S.all v) _ fun F' H' g => iteF ?_
  have g2 : Gr F H F H' := ⟨Same.refl _, g.h, S.s.ex.trans g.h, fun a o h0 h1 => by rw [h0] at h1; cases h1⟩
  exact q2 F0 H0 F H' σ D (S.grow g2) p
theorem wb_ret (v : VwE ω env envv) (h : BE X e envv (.ok d)) (hn : noL d = true) : WB X (.Return (some e) pos) env ω (.rt d ω) := by
  obtain ⟨t, p1, q1⟩ := h
  refine ⟨_, ps_ret p1, fun F0 H0 F H σ D S p => ?_⟩
  refine q1 H H H H σ (S.all v) _ fun y F' H' g hd => ?_
  obtain ⟨g2, hd2⟩ := all_gr S.s.ex g hd hn
  exact p y _ H' (S.s.gr.trans g2) (S.w.grow g2) hd2
/-! ### with a changing expression -/
theorem wb_set (i : Nat) {pos' : Pos} (C : X.N.Nodup) (h : WE X e env ω d ω1) (hi : X.N[i]? = some x := by rfl) (hx : Loc X.env.scope x := by first | exact Or.inl rfl | exact Or.inr rfl) (hs : swapsWith e (some (.Name x pos')) pos.line X.env = pure false := by rfl)
    (hf : X.fn x = true ∨ X.env.scope.names.lookup x = some .local := by first | exact .inl rfl | exact .inr rfl | assumption) : WB X (.Assign [.Name x pos'] e pos) env ω (.nx (env.set i (.v d)) ω1) := by
  obtain ⟨t, p1, q1⟩ := h
  refine ⟨_, ps_set C hi hx p1 hs hf, fun F0 H0 F H σ D S p => ?_⟩
  exact q1 F0 H0 F H σ S _ fun y F' H' ex S' hd => p F' H' _ ex (S'.set_v hd)
theorem wb_retM (h : WE X e env ω d ω1) : WB X (.Return (some e) pos) env ω (.rt d ω1) := by
  obtain ⟨t, p1, q1⟩ := h
  exact ⟨_, ps_ret p1, fun F0 H0 F H σ D S p => q1 F0 H0 F H σ S _ fun y F' H' ex S' hd => p y F' H' S'.s.gr S'.w hd⟩
/-- e != b, e changes the world -/
theorem wt_ne {d2 : D} (ha : WE X a env ω d ω1) (v : VwE ω1 env envv) (hb : BE X b envv (.ok d2)) {r : R2} (ho : OpR X (compareOp .NotEq) r) (hr : R2S X.K r d d2 (.bool b1)) (hm : behindInMarks .NotEq b = false) : WT X (.Compare a [.NotEq] [b] pos) env ω b1 ω1 := by
  obtain ⟨t, h1, h2⟩ := ha
  obtain ⟨u, g1, g2⟩ := hb
  obtain ⟨w, hv, hr⟩ := hr
  cases hv
  refine ⟨_, pt_cmpR ho h1 g1 hm, fun F0 H0 F H σ S Q q => ?_⟩
  refine h2 F0 H0 F H σ S _ fun y F1 H1 ex S1 hd1 => ?_
  refine g2 H1 H1 H1 H1 σ (S1.all v) _ fun z F2 H2 gr hd2 => ?_
  have g3 : Gr F1 H1 F1 H2 := ⟨Same.refl _, gr.h, S1.s.ex.trans gr.h, fun a o h0 h1 => by rw [h0] at h1; cases h1⟩
  exact hr H2 y z (dp_mono (S1.s.ex.trans gr.h) hd1) (dp_mono gr.s hd2) _ ⟨b1, rfl, q F1 H2 ex (S1.grow g3)⟩
theorem wb_ifMT (hc : WT X e env ω b1 ω1) (hb : b1 = true) (h : WBs X A env ω1 out) : WB X (.If e A B pos) env ω out := by
  subst hb
  obtain ⟨t, p1, q1⟩ := hc
  obtain ⟨u, p2, q2⟩ := h
  refine ⟨_, ps_if p1 p2 (u := fun _ _ _ => False) ⟨fun _ _ _ _ _ _ h => h.elim⟩, fun F0 H0 F H σ D S p => ?_⟩
  exact q1 F0 H0 F H σ S _ fun F' H' ex S' => iteT (q2 F0 H0 F' H' σ D S' (p.fwd ex))
theorem wb_ifMF (hc : WT X e env ω b1 ω1) (hb : b1 = false) (h : WBs X B env ω1 out) : WB X (.If e A B pos) env ω out := by
  subst hb
  obtain ⟨t, p1, q1⟩ := hc
  obtain ⟨u, p2, q2⟩ := h
  refine ⟨_, ps_if p1 (t := fun _ _ _ => False) ⟨fun _ _ _ _ _ _ h => h.elim⟩ p2, fun F0 H0 F H σ D S p => ?_⟩
  exact q1 F0 H0 F H σ S _ fun F' H' ex S' => iteF (q2 F0 H0 F' H' σ D S' (p.fwd ex))
/-- a or b, a changes the world and is false -/
theorem wt_orF {restE : List Expr} (ha : WT X a env ω false ω1) (v : VwE ω1 env envv) (hb : BW X (.BoolOp .Or (b :: restE) pos) envv b2) : WT X (.BoolOp .Or (a :: b :: restE) pos) env ω b2 ω1 := by
  obtain ⟨t, h1, h2⟩ := ha
  obtain ⟨u, g1, g2⟩ := hb
  refine ⟨_, (pw_or h1 g1).pt, fun F0 H0 F H σ S Q q => ?_⟩
  refine h2 F0 H0 F H σ S _ fun F1 H1 ex S1 => iteF ?_
  refine g2 H1 H1 H1 H1 σ (S1.all v) Q fun F2 H2 gr => ?_
  have g3 : Gr F1 H1 F1 H2 := ⟨Same.refl _, gr.h, S1.s.ex.trans gr.h, fun a o h0 h1 => by rw [h0] at h1; cases h1⟩
  exact q F1 H2 ex (S1.grow g3)
end
end PD
/-! PD: what changes the world: calls, lists, a ground's fields -/
namespace PD
open PySem L2 PySem.Spec PyProof.Rows

/-- growth but for the places M -/
structure GrW (M : List Addr) (F H F' H' : Hp) : Prop where
  f : Ex F F'
  h : ∀ a o, H a = some o → a ∉ M → H' a = some o
  s : Ex F' H'
  n : ∀ a o, F a = none → F' a = some o → H a = none ∨ ∃ xs, o = .tup xs
section
variable {K : PySem.W.Frag} {F0 H0 F H F' H' F1 H1 : Hp} {σ : L2.St} {env : List Sl} {ω ωc ωc' ωr : List Wc} {M : List Addr}
theorem GrW.of (g : Gr F H F' H') : GrW M F H F' H' := ⟨g.f, fun a o e _ => g.h a o e, g.s, g.n⟩
theorem Gr.thenW (a : Gr F H F1 H1) (b : GrW M F1 H1 F' H') : GrW M F H F' H' := by
  refine ⟨a.f.trans b.f, fun x o e hm => b.h x o (a.h x o e) hm, b.s, fun x o h e => ?_⟩
  cases q : F1 x with
  | some o1 =>
    have e1 := b.f x o1 q
    rw [e] at e1
    cases e1
    exact a.n x _ h q
  | none =>
    rcases b.n x o q e with z | z
    · exact .inl (a.h.free z)
    · exact .inr z
/-- one object is changed -/
theorem grW_upd {p : Addr} {o : HO} (s : Ex F H) (hp : F p = none) (hm : p ∈ M) : GrW M F H F (upd H p o) := by
  refine ⟨Same.refl _, fun a u e ha => ?_, fun a u e => ?_, fun a u h0 h1 => by rw [h0] at h1; cases h1⟩
  · rw [upd_ne (fun q => ha (by rw [q]; exact hm))]
    exact e
  · rw [upd_ne (ne_of_none e hp)]
    exact s a u e
theorem gone_stays {a : Addr} {o : HO} (g : GrW M F H F' H') (hf : F a = none) (hh : H a = some o) (hM : a ∉ M) (ho : ∀ xs, o ≠ .tup xs) : F' a = none := by
  cases q : F' a with
  | none => rfl
  | some u =>
    rcases g.n a u hf q with z | ⟨xs, z⟩
    · rw [hh] at z
      cases z
    · have e1 := g.s a u q
      rw [g.h a o hh hM] at e1
      cases e1
      exact absurd z (ho xs)
theorem WSd.call (S : WSd K F0 H0 F H σ env ω) (p : ω.Perm (ωc ++ ωr)) (g : GrW (foots ωc) F H F' H') (w : WOk K F' H' ωc') (hf : foots ωc' = foots ωc) : WSd K F0 H0 F' H' σ env (ωc' ++ ωr) := by
  have S1 := S.perm p
  have inM : ∀ a, a ∈ foots ωc → a ∈ foots (ωc ++ ωr) := fun a ha => by
    rw [foots_app]
    exact List.mem_append_left _ ha
  have inR : ∀ a, a ∈ foots ωr → a ∈ foots (ωc ++ ωr) := fun a ha => by
    rw [foots_app]
    exact List.mem_append_right _ ha
  have dj : ∀ a, a ∈ foots ωr → a ∉ foots ωc := fun a ha hc => by
    have := S1.nd
    rw [foots_app] at this
    exact (List.nodup_append.mp this).2.2 a hc a ha rfl
  have ef : foots (ωc' ++ ωr) = foots (ωc ++ ωr) := by rw [foots_app, foots_app, hf]
  refine ⟨⟨⟨S1.s.gr.f.trans g.f, fun a o e => ?_, g.s, fun a o e1 e2 => ?_⟩, S1.s.len, fun i s e => ?_, S1.s.di⟩, ⟨fun c hc => ?_, fun a ha => ?_⟩, by rw [ef]; exact S1.nd, by rw [ef]; exact S1.h0, by rw [ef]; exact S1.ow⟩
  · exact g.h a o (S1.s.gr.h a o e) fun q => by
      rw [S1.h0 a (inM a q)] at e
      cases e
  · cases q : F a with
    | some o1 =>
      have := g.f a o1 q
      rw [e2] at this
      cases this
      exact S1.s.gr.n a o e1 q
    | none =>
      rcases g.n a o q e2 with z | z
      · exact .inl (S1.s.gr.h.free z)
      · exact .inr z
  · have z := S1.s.ok i s e
    by_cases ho : s.isOwn = true
    · cases s with
      | own ds =>
        obtain ⟨a, xs, z1, z2, z3, z4, z5⟩ := z
        have nm : a ∉ foots ωc := fun q => S1.ow i _ a e rfl z1 (inM a q)
        exact ⟨a, xs, z1, z2, gone_stays g z3 z4 nm (fun _ q => nomatch q), g.h _ _ z4 nm, dpAll_mono g.f z5⟩
      | keys ks =>
        obtain ⟨a, z1, z2, z3, z4⟩ := z
        have nm : a ∉ foots ωc := fun q => S1.ow i _ a e rfl z1 (inM a q)
        exact ⟨a, z1, z2, gone_stays g z3 z4 nm (fun _ q => nomatch q), g.h _ _ z4 nm⟩
      | _ => cases ho
    · exact SlOk.frz g.f z (by simpa using ho)
  · rcases List.mem_append.mp hc with q | q
    · exact w.1 c q
    · exact (S1.w.1 c (List.mem_append_right _ q)).on g.f fun a o ha h => g.h a o h (dj a (foots_mem.mpr ⟨c, q, ha⟩))
  · rw [foots_app] at ha
    rcases List.mem_append.mp ha with q | q
    · exact w.2 a q
    · obtain ⟨c, hc, hm⟩ := foots_mem.mp q
      obtain ⟨o, h1, h2⟩ := foot_ob (S1.w.1 c (List.mem_append_right _ hc)) hm
      exact gone_stays g (S1.w.2 a (inR a q)) h1 (dj a q) h2
end

/-! ### a def's promise where it changes the world -/
def spM (K : PySem.W.Frag) (G : List Av → List Wc → D → List Wc → Prop) : Sp := fun vs H Q E => ∃ F as ω d ω', Ex F H ∧ AvAll K F H vs as ∧ WOk K F H ω ∧ (foots ω).Nodup ∧ G as ω d ω' ∧ foots ω' = foots ω ∧
  ∀ v F' H', GrW (foots ω) F H F' H' → WOk K F' H' ω' → Dp K F' v d → Q v H'
section
variable {X : Cx} {env env1 envv : List Sl} {ω ω1 ωc ωc' ωr : List Wc} {e a b o : Expr} {es : List Expr} {d : D} {ds : List D} {pos p2 p3 p4 apos : Pos} {x m : Str} {as : List Av} {k k' : Nat} {sp : Sp} {G : List Av → List Wc → D → List Wc → Prop} {g : Gs}
theorem we_callM (h : DnS X.prog X.w X.K X.mg X.base k x sp) (hsp : ∀ vs H Q E, spM X.K G vs H Q E → sp vs H Q E) (hr : Room k' X.A) (hk : k ≤ k') (ha : BV X (e :: es) env as) (p : ω.Perm (ωc ++ ωr)) (hG : G as ωc d ωc') (hf : foots ωc' = foots ωc) (hg : Gl X x := by rfl) (hdb : (x == ("__debug__" : Str)) = false := by decide)
    (he : starEach (e :: es) X.env = (false, eval e X.env) :: starEach es X.env := by rfl) (hpl : (backTo pos (starEach es X.env)).any (·.1) = false := by rfl) : WE X (.Call (.Name x p2) (e :: es) [] pos) env ω d (ωc' ++ ωr) := by
  obtain ⟨f, fd, ps, F, hm, kp, hb⟩ := h.ex
  obtain ⟨t, h1, h2⟩ := ha
  refine ⟨_, pe_call F (hr.mono hk) hg hm kp hb .nil passL h1 hdb he hpl, fun F0 H0 F H σ S Q q => ?_⟩
  refine h2 F0 (seen (foots ω) H0 H) F H σ S.up _ fun vs F1 H1 gr hv => hsp _ _ _ _ ?_
  have S1 := (S.grow gr).perm p
  have nd := S1.nd
  rw [foots_app] at nd
  refine ⟨F1, as, ωc, d, ωc', gr.s, by rw [List.append_nil]; exact hv, ⟨fun c hc => S1.w.1 c (List.mem_append_left _ hc), fun a ha => S1.w.2 a (by rw [foots_app]; exact List.mem_append_left _ ha)⟩, (List.nodup_append.mp nd).1, hG, hf, fun v F2 H2 gw w hd => ?_⟩
  exact q v F2 H2 (gr.f.trans gw.f) ((S.grow gr).call p gw w hf) hd
/-- o.m(e, ..), o an address in slot i -/
theorem we_methM (i : Nat) {pl : Sem Bool} (h : MnS X.prog X.w X.K X.mg X.base k g.C m sp) (hsp : ∀ vs H Q E, spM X.K G vs H Q E → sp vs H Q E) (hr : Room k' X.A) (hk : k ≤ k') (hi : env[i]? = some (.adr g.p)) (ha : BV X (e :: es) env as) (p : ω.Perm ([.g g] ++ ωr)) (hG : G (.a g.p :: as) [.g g] d ωc') (hf : foots ωc' = foots [.g g])
    (hN : X.N[i]? = some x := by rfl) (hv : Vis X.env.scope x := by first | exact Or.inl rfl | exact Or.inr (Or.inl rfl) | exact Or.inr (Or.inr rfl)) (hdd : (x == ("__debug__" : Str)) = false := by decide) (hcd : (x == ("__classdict__" : Str)) = false := by decide)
    (hst : starEach (e :: es) X.env = (false, eval e X.env) :: starEach es X.env := by rfl) (hpl : (backTo pos (starEach es X.env)).any (·.1) = false := by rfl)
    (ht : eval (.Call (.Attribute (.Name x p2) m apos) (e :: es) [] pos) X.env = (do
      let ov ← eval (.Name x p2) X.env
      standAt apos.atName
      let (f, first) ← holding [ov] (getMethod ov m pl)
      callWith pos f first (backTo pos (starEach (e :: es) X.env)) (backToKw pos (keywordEach [] X.env))) := by rfl) : WE X (.Call (.Attribute (.Name x p2) m apos) (e :: es) [] pos) env ω d (ωc' ++ ωr) := by
  obtain ⟨f, fd, ps, F, hm, hb⟩ := h.ex
  obtain ⟨t, h1, h2⟩ := ha
  refine ⟨_, pe_meth (pe_var hN hv hdd hcd) h.cl hm F (hr.mono hk) hb .nil passL h1 hst hpl ht, fun F0 H0 F H σ S Q q => ?_⟩
  have S0 := S.perm p
  obtain ⟨dx, kvs, a1, _⟩ := id (S0.w.1 (.g g) (by simp))
  refine ⟨_, S.s.ok i _ hi, g.p, dx, _, rfl, a1, h.nf _ _ _, ?_⟩
  refine h2 F0 (seen (foots ω) H0 H) F H σ S.up _ fun vs F1 H1 gr hv => hsp _ _ _ _ ?_
  have S1 := (S.grow gr).perm p
  have nd := S1.nd
  rw [foots_app] at nd
  refine ⟨F1, .a g.p :: as, [.g g], d, ωc', gr.s, .cons rfl (by rw [List.append_nil]; exact hv), ⟨fun c hc => S1.w.1 c (List.mem_append_left _ hc), fun a ha => S1.w.2 a (by rw [foots_app]; exact List.mem_append_left _ ha)⟩, (List.nodup_append.mp nd).1, hG, hf, fun v F2 H2 gw w hd => ?_⟩
  exact q v F2 H2 (gr.f.trans gw.f) ((S.grow gr).call p gw w hf) hd

/-! ### lists of the world -/
theorem wb_append (i : Nat) {p : Addr} {ap cp : Pos} (hi : env[i]? = some (.adr p)) (h : BE X e env (.ok d)) (pm : ω.Perm (.l p ds :: ωr)) (hl : ds.length < sizeLine) (hN : X.N[i]? = some x := by rfl) (hv : Vis X.env.scope x := by first | exact Or.inl rfl | exact Or.inr (Or.inl rfl) | exact Or.inr (Or.inr rfl))
    (hdd : (x == ("__debug__" : Str)) = false := by decide) (hcd : (x == ("__classdict__" : Str)) = false := by decide)
    (hbase : attributeBase (.Name x p2) "append" X.env (eval (.Name x p2) X.env) = eval (.Name x p2) X.env := by rfl)
    (hfew : ((backTo cp (starEach (e :: []) X.env)).all (fun x => !x.1) && (backToKw cp (keywordEach [] X.env)).all (fun x => x.1.isSome)
      && decide ((e :: []).length + ([] : List Keyword).length + (if ([] : List Keyword).isEmpty then 0 else 1) < 30)) = true := by rfl)
    (hline : (ap.endLine == cp.line) = true := by rfl) (hs : starEach (e :: []) X.env = (false, eval e X.env) :: starEach [] X.env := by rfl) (hplain : (backTo cp (starEach [] X.env)).any (·.1) = false := by rfl)
    (hsw : swapsWith (.Call (.Attribute (.Name x p2) "append" ap) [e] [] cp) none pos.line X.env = pure false := by rfl) :
    WB X (.Expr (.Call (.Attribute (.Name x p2) "append" ap) [e] [] cp) pos) env ω (.nx env (.l p (ds ++ [d]) :: ωr)) := by
  obtain ⟨t, p1, q1⟩ := h
  refine ⟨_, ps_expr (pe_bm PySem.F.plainAttrs_list PySem.F.slot_list_append PySem.F.type_list_append mt_append (pe_var hN hv hdd hcd) (pa_cons p1 pa_nil hs) hbase hfew hline hs hplain) hsw, fun F0 H0 F H σ D S k => ?_⟩
  obtain ⟨xs, hh, hx⟩ := (S.perm pm).w.1 (.l p ds) List.mem_cons_self
  refine ⟨_, S.s.ok i _ hi, .inl ⟨rfl, _, .inl (.inl hh)⟩, ?_⟩
  refine q1 F0 (seen (foots ω) H0 H) F H σ S.up _ fun v F' H' gr hd => ?_
  have S1 := S.grow gr
  refine ⟨p, xs, v, rfl, rfl, gr.h _ _ hh, by rw [hx.len]; exact hl, ?_⟩
  have hp : F' p = none := (S1.perm pm).w.2 p (foots_mem.mpr ⟨_, List.mem_cons_self, List.mem_cons_self⟩)
  refine k F' _ σ gr.f (S1.call (ωc := [.l p ds]) (ωc' := [.l p (ds ++ [d])]) (ωr := ωr) pm (grW_upd S1.s.ex hp (by simp [foots, wcFoot])) ⟨fun c hc => ?_, fun a ha => ?_⟩ rfl)
  · rw [List.mem_singleton] at hc
    subst hc
    exact ⟨_, upd_same, (dpAll_mono gr.f hx).append (.cons hd .nil)⟩
  · have : a = p := by simpa [foots, wcFoot] using ha
    rw [this]
    exact hp
/-- xs[k] = e -/
theorem wb_setAt (i : Nat) {p : Addr} {k : Int} {j : Nat} (hi : env[i]? = some (.adr p)) (hk : BE X b env (.ok (.int k))) (h : BE X e env (.ok d)) (pm : ω.Perm (.l p ds :: ωr)) (hj : ixN ds.length k = some j) (hN : X.N[i]? = some x := by rfl)
    (hv : Vis X.env.scope x := by first | exact Or.inl rfl | exact Or.inr (Or.inl rfl) | exact Or.inr (Or.inr rfl)) (hdd : (x == ("__debug__" : Str)) = false := by decide) (hcd : (x == ("__classdict__" : Str)) = false := by decide)
    (ha : ∀ v, assign (.Subscript (.Name x p2) b p3) X.env v = (do
      let ov ← holding [v] (eval (.Name x p2) X.env)
      let iv ← holding [v, ov] (eval b X.env)
      standAt p3
      holding [v, ov, iv] (setItem ov iv v)
      release [v, ov, iv] []) := by intro _; rfl)
    (hs : swapsWithSole [.Subscript (.Name x p2) b p3] e pos.line X.env = pure false := by rfl) (hw : swappedStores [.Subscript (.Name x p2) b p3] e X.env = pure none := by rfl)
    (h1 : (assignEach [.Subscript (.Name x p2) b p3] X.env).map (·.2) = [assign (.Subscript (.Name x p2) b p3) X.env] := by rfl) :
    WB X (.Assign [.Subscript (.Name x p2) b p3] e pos) env ω (.nx env (.l p (ds.set j d) :: ωr)) := by
  obtain ⟨t, p1, q1⟩ := h
  obtain ⟨u, k1, k2⟩ := hk
  refine ⟨_, ps_asg p1 (pg_sub (pe_var hN hv hdd hcd) k1 set_list ha) hs hw h1, fun F0 H0 F H σ D S kk => ?_⟩
  refine q1 F0 (seen (foots ω) H0 H) F H σ S.up _ fun v F1 H1 g1 hd => ?_
  have S1 := S.grow g1
  refine ⟨_, S1.s.ok i _ hi, ?_⟩
  refine k2 F0 (seen (foots ω) H0 H1) F1 H1 σ S1.up _ fun w F' H' g2 hw => ?_
  have ew := dp_int hw
  subst ew
  have S2 := S1.grow g2
  obtain ⟨xs, hh, hx⟩ := (S2.perm pm).w.1 (.l p ds) List.mem_cons_self
  refine ⟨p, xs, k, j, rfl, rfl, hh, by rw [hx.len]; exact hj, ?_⟩
  have hp : F' p = none := (S2.perm pm).w.2 p (foots_mem.mpr ⟨_, List.mem_cons_self, List.mem_cons_self⟩)
  refine kk F' _ σ (g1.trans g2).f (S2.call (ωc := [.l p ds]) (ωc' := [.l p (ds.set j d)]) (ωr := ωr) pm (grW_upd S2.s.ex hp (by simp [foots, wcFoot])) ⟨fun c hc => ?_, fun a ha => ?_⟩ rfl)
  · rw [List.mem_singleton] at hc
    subst hc
    exact ⟨_, upd_same, hx.set (dp_mono g2.f hd) j⟩
  · have : a = p := by simpa [foots, wcFoot] using ha
    rw [this]
    exact hp

/-! ### a ground's fields -/
theorem putF_came {n c c' : Int} {d : Addr} : putF "came" (.int c') (gFlds n c d) = gFlds n c' d := by
  have n1 : ¬ (("size" : Str) = ("came" : Str)) := by decide +kernel
  have n2 : ¬ (("kept" : Str) = ("came" : Str)) := by decide +kernel
  unfold gFlds
  simp only [putF, if_neg n1, if_neg n2, if_true]
/-- self.kept[self.came] = e, a new number -/
theorem wb_keptPut (i : Nat) (c : GCls X.K g.C) (hu : X.A.units + 1 < cLine) (hi : env[i]? = some (.adr g.p)) (h : BE X e env (.ok d)) (pm : ω.Perm (.g g :: ωr)) (hk : kvGet g.kv g.came = none) (hl : g.kv.length < sizeLine) (hN : X.N[i]? = some x := by rfl)
    (hv : Vis X.env.scope x := by first | exact Or.inl rfl | exact Or.inr (Or.inl rfl) | exact Or.inr (Or.inr rfl)) (hdd : (x == ("__debug__" : Str)) = false := by decide) (hcd : (x == ("__classdict__" : Str)) = false := by decide) {q2 q3 q4 : Pos}
    (hb1 : attributeBase (.Name x p2) "kept" X.env (eval (.Name x p2) X.env) = eval (.Name x p2) X.env := by rfl) (hb2 : attributeBase (.Name x q2) "came" X.env (eval (.Name x q2) X.env) = eval (.Name x q2) X.env := by rfl)
    (hs : swapsWith e (some (.Subscript (.Attribute (.Name x p2) "kept" p3) (.Attribute (.Name x q2) "came" q3) q4)) pos.line X.env = pure false := by rfl) :
    WB X (.Assign [.Subscript (.Attribute (.Name x p2) "kept" p3) (.Attribute (.Name x q2) "came" q3) q4] e pos) env ω (.nx env (.g { g with kv := g.kv ++ [(g.came, d)] } :: ωr)) := by
  obtain ⟨t, p1, q1⟩ := h
  refine ⟨_, ps_dput hu (pe_fld (pe_var hN hv hdd hcd) hb1) (pe_fld (pe_var hN hv hdd hcd) hb2) p1 hs, fun F0 H0 F H σ D S k => ?_⟩
  refine q1 F0 (seen (foots ω) H0 H) F H σ S.up _ fun v F1 H1 g1 hd => ?_
  have S1 := S.grow g1
  obtain ⟨dx, kvs, a1, a2, a3, a4⟩ := (S1.perm pm).w.1 (.g g) List.mem_cons_self
  refine ⟨_, S1.s.ok i _ hi, g.p, g.C, dx, _, _, rfl, a1, c.cl, c.nK, gl_kept, _, S1.s.ok i _ hi, g.p, g.C, dx, _, _, rfl, a1, c.cl, c.nC, gl_came, g.d, _, rfl, DPut.k (k := Sum.inl g.came) a2 (by rw [kv_len a3]; exact hl), ?_⟩
  have hfoot : ∀ a, a ∈ [g.p, g.d] → F1 a = none := fun a ha => (S1.perm pm).w.2 a (foots_mem.mpr ⟨_, List.mem_cons_self, ha⟩)
  have hd1 : F1 g.d = none := hfoot g.d (by simp)
  have hne : g.p ≠ g.d := fun q => by
    rw [q, a2] at a1
    cases a1
  have ek : putK kvs (Sum.inl g.came : Key) v = kvs ++ [(Sum.inl g.came, v)] := by
    unfold putK
    rw [valV_any]
    rcases kv_val g.came a3 a4 with ⟨z1, z2⟩ | ⟨_, _, z1, _⟩
    · rw [z2]
      rfl
    · rw [hk] at z1
      cases z1
  rw [ek]
  refine k F1 _ σ g1.f (S1.call (ωc := [.g g]) (ωc' := [.g { g with kv := g.kv ++ [(g.came, d)] }]) (ωr := ωr) pm (grW_upd S1.s.ex hd1 (by simp [foots, wcFoot])) ⟨fun q hq => ?_, fun a ha => ?_⟩ rfl)
  · rw [List.mem_singleton] at hq
    subst hq
    refine ⟨dx, _, by rw [upd_ne hne]; exact a1, upd_same, ?_, ?_⟩
    · show (kvs ++ [((Sum.inl g.came : Key), v)]).map (fun y : Key × V => y.1) = (g.kv ++ [(g.came, d)]).map _
      rw [List.map_append, List.map_append, a3]
      rfl
    · show DpAll X.K F1 ((kvs ++ [((Sum.inl g.came : Key), v)]).map (fun y : Key × V => y.2)) ((g.kv ++ [(g.came, d)]).map (fun y : Int × PyData => y.2))
      rw [List.map_append, List.map_append]
      exact a4.append (.cons hd .nil)
  · exact hfoot a (by simpa [foots, wcFoot] using ha)
/-- self.came = e -/
theorem wb_camePut (i : Nat) {n : Int} (c : GCls X.K g.C) (v : VwE ω env envv) (hi : env[i]? = some (.adr g.p)) (h : BE X e envv (.ok (.int n))) (pm : ω.Perm (.g g :: ωr)) (hN : X.N[i]? = some x := by rfl)
    (hv : Vis X.env.scope x := by first | exact Or.inl rfl | exact Or.inr (Or.inl rfl) | exact Or.inr (Or.inr rfl)) (hdd : (x == ("__debug__" : Str)) = false := by decide) (hcd : (x == ("__classdict__" : Str)) = false := by decide)
    (hs : swapsWith e (some (.Attribute (.Name x p2) "came" p3)) pos.line X.env = pure false := by rfl) :
    WB X (.Assign [.Attribute (.Name x p2) "came" p3] e pos) env ω (.nx env (.g { g with came := n } :: ωr)) := by
  obtain ⟨t, p1, q1⟩ := h
  refine ⟨_, ps_fld (pe_var hN hv hdd hcd) p1 hs, fun F0 H0 F H σ D S k => ?_⟩
  refine q1 H H H H σ (S.all v) _ fun y F1 H1 g1 hd => ?_
  have g2 : Gr F H F H1 := ⟨Same.refl _, g1.h, S.s.ex.trans g1.h, fun a o h0 h1 => by rw [h0] at h1; cases h1⟩
  have S1 := S.grow g2
  obtain ⟨dx, kvs, a1, a2, a3, a4⟩ := (S1.perm pm).w.1 (.g g) List.mem_cons_self
  have ey := dp_int hd
  subst ey
  refine ⟨_, S1.s.ok i _ hi, g.p, g.C, dx, _, rfl, a1, c.cl, c.nC, (by show 3 < 1000; decide), ?_⟩
  rw [putF_came]
  have hfoot : ∀ a, a ∈ [g.p, g.d] → F a = none := fun a ha => (S1.perm pm).w.2 a (foots_mem.mpr ⟨_, List.mem_cons_self, ha⟩)
  have hne : g.d ≠ g.p := fun q => by
    rw [← q, a2] at a1
    cases a1
  refine k F _ σ (Same.refl _) (S1.call (ωc := [.g g]) (ωc' := [.g { g with came := n }]) (ωr := ωr) pm (grW_upd S1.s.ex (hfoot g.p (by simp)) (by simp [foots, wcFoot])) ⟨fun q hq => ?_, fun a ha => ?_⟩ rfl)
  · rw [List.mem_singleton] at hq
    subst hq
    exact ⟨dx, kvs, upd_same, by show upd H1 g.p _ g.d = _; rw [upd_ne hne]; exact a2, a3, a4⟩
  · exact hfoot a (by simpa [foots, wcFoot] using ha)
def kvDrop (kv : List (Int × D)) (k : Int) : List (Int × D) := kv.filter fun x => decide (x.1 ≠ k)
theorem kv_drop {K : PySem.W.Frag} {F : Hp} : ∀ {kvs : List (Key × V)} {kv : List (Int × D)} (k : Int), kvs.map (·.1) = kv.map (fun x => (Sum.inl x.1 : Key)) → DpAll K F (kvs.map (·.2)) (kv.map (·.2)) →
    (dropK kvs (Sum.inl k : Key)).map (·.1) = (kvDrop kv k).map (fun x => (Sum.inl x.1 : Key)) ∧ DpAll K F ((dropK kvs (Sum.inl k : Key)).map (·.2)) ((kvDrop kv k).map (·.2))
  | [], [], k, _, _ => ⟨rfl, .nil⟩
  | [], _ :: _, k, h, _ => by simp at h
  | _ :: _, [], k, h, _ => by simp at h
  | (a, v) :: r, (b, d) :: t, k, h, hd => by
    rw [List.map_cons, List.map_cons] at h
    injection h with h1 h2
    have h1' : a = Sum.inl b := h1
    subst h1'
    rw [List.map_cons, List.map_cons] at hd
    cases hd with
    | cons q1 q2 =>
      obtain ⟨i1, i2⟩ := kv_drop k h2 q2
      by_cases hk : b = k
      · have e1 : dropK ((Sum.inl b, v) :: r) (Sum.inl k : Key) = dropK r (Sum.inl k : Key) := by
          unfold dropK
          rw [List.filter_cons_of_neg (by simp [hk])]
        have e2 : kvDrop ((b, d) :: t) k = kvDrop t k := by
          unfold kvDrop
          rw [List.filter_cons_of_neg (by simp [hk])]
        rw [e1, e2]
        exact ⟨i1, i2⟩
      · have e1 : dropK ((Sum.inl b, v) :: r) (Sum.inl k : Key) = (Sum.inl b, v) :: dropK r (Sum.inl k : Key) := by
          unfold dropK
          rw [List.filter_cons_of_pos (by simpa using hk)]
        have e2 : kvDrop ((b, d) :: t) k = (b, d) :: kvDrop t k := by
          unfold kvDrop
          rw [List.filter_cons_of_pos (by simpa using hk)]
        rw [e1, e2, List.map_cons, List.map_cons, List.map_cons, List.map_cons]
        exact ⟨congrArg _ i1, .cons q1 i2⟩
/-- self.kept.pop(e), the number is there -/
theorem we_pop (i : Nat) {k : Int} {ap cp : Pos} (c : GCls X.K g.C) (hi : env[i]? = some (.adr g.p)) (h : BE X e env (.ok (.int k))) (pm : ω.Perm (.g g :: ωr)) (hk : kvGet g.kv k = some d) (hN : X.N[i]? = some x := by rfl)
    (hv : Vis X.env.scope x := by first | exact Or.inl rfl | exact Or.inr (Or.inl rfl) | exact Or.inr (Or.inr rfl)) (hdd : (x == ("__debug__" : Str)) = false := by decide) (hcd : (x == ("__classdict__" : Str)) = false := by decide)
    (hb1 : attributeBase (.Name x p2) "kept" X.env (eval (.Name x p2) X.env) = eval (.Name x p2) X.env := by rfl)
    (hb2 : attributeBase (.Attribute (.Name x p2) "kept" p3) "pop" X.env (eval (.Attribute (.Name x p2) "kept" p3) X.env) = eval (.Attribute (.Name x p2) "kept" p3) X.env := by rfl)
    (hfew : ((backTo cp (starEach [e] X.env)).all (fun x => !x.1) && (backToKw cp (keywordEach [] X.env)).all (fun x => x.1.isSome)
      && decide (([e] : List Expr).length + ([] : List Keyword).length + (if ([] : List Keyword).isEmpty then 0 else 1) < 30)) = true := by rfl)
    (hline : (ap.endLine == cp.line) = true := by rfl) (htr : backTo cp (starEach [e] X.env) = [(false, eval e X.env)] := by rfl) :
    WE X (.Call (.Attribute (.Attribute (.Name x p2) "kept" p3) "pop" ap) [e] [] cp) env ω d (.g { g with kv := kvDrop g.kv k } :: ωr) := by
  obtain ⟨t, p1, q1⟩ := h
  refine ⟨_, pe_dpop1 (pe_fld (pe_var hN hv hdd hcd) hb1) p1 ⟨hb2, hfew, hline, htr⟩, fun F0 H0 F H σ S Q q => ?_⟩
  obtain ⟨dx, kvs, a1, a2, a3, a4⟩ := (S.perm pm).w.1 (.g g) List.mem_cons_self
  refine ⟨_, S.s.ok i _ hi, g.p, g.C, dx, _, _, rfl, a1, c.cl, c.nK, gl_kept, g.d, rfl, .inl ⟨kvs, .inl a2⟩, ?_⟩
  refine q1 F0 (seen (foots ω) H0 H) F H σ S.up _ fun v F1 H1 g1 hd => ?_
  have S1 := S.grow g1
  rcases kv_val k a3 a4 with ⟨z1, _⟩ | ⟨d1, v1, z1, z2, z3⟩
  · rw [hk] at z1
    cases z1
  · rw [hk] at z1
    cases z1
    refine ⟨kvs, Sum.inl k, v1, g1.h _ _ a2, dp_int hd, z2, ?_⟩
    obtain ⟨b1, b2⟩ := kv_drop k a3 a4
    have hfoot : ∀ a, a ∈ [g.p, g.d] → F1 a = none := fun a ha => (S1.perm pm).w.2 a (foots_mem.mpr ⟨_, List.mem_cons_self, ha⟩)
    have hne : g.p ≠ g.d := fun z => by
      rw [z, a2] at a1
      cases a1
    refine q v1 F1 _ g1.f (S1.call (ωc := [.g g]) (ωc' := [.g { g with kv := kvDrop g.kv k }]) (ωr := ωr) pm (grW_upd S1.s.ex (hfoot g.d (by simp)) (by simp [foots, wcFoot])) ⟨fun z hz => ?_, fun a ha => ?_⟩ rfl) (dp_mono g1.f z3)
    · rw [List.mem_singleton] at hz
      subst hz
      exact ⟨dx, _, by rw [upd_ne hne]; exact g1.h _ _ a1, upd_same, b1, dpAll_mono g1.f b2⟩
    · exact hfoot a (by simpa [foots, wcFoot] using ha)
end
end PD
/-! PD: defs that change the world; loops, try; grounds made -/
namespace PD
open PySem L2 PySem.Spec PyProof.Rows

def hide (M : List Addr) (H : Hp) : Hp := fun a => if a ∈ M then none else H a
theorem hide_ex {M : List Addr} {H : Hp} : Ex (hide M H) H := fun a o e => by
  unfold hide at e
  split at e
  · cases e
  · exact e
theorem hide_in {M : List Addr} {H : Hp} {a : Addr} (h : a ∈ M) : hide M H a = none := by
  unfold hide
  rw [if_pos h]
theorem hide_out {M : List Addr} {H : Hp} {a : Addr} (h : a ∉ M) : hide M H a = H a := by
  unfold hide
  rw [if_neg h]
section
variable {K : PySem.W.Frag} {F0 H0 F H F' H' F1 H1 : Hp} {σ : L2.St} {env : List Sl} {ω : List Wc} {N : List Str} {vs : List V} {as : List Av}
theorem wsd_start (s : Ex F H) (h : AvAll K F H vs as) (hno : ∀ g : Gs, Av.g g ∉ as) (w : WOk K F H ω) (nd : (foots ω).Nodup) : WSd K F (hide (foots ω) H) F H (L2.start N vs) (st0V N as) ω := by
  obtain ⟨h1, h2⟩ := avs_slots (N := N) (H0 := hide (foots ω) H) h fun g hg => absurd hg (hno g)
  refine ⟨⟨⟨Same.refl _, hide_ex, s, fun a o e0 e => by rw [e0] at e; cases e⟩, h1, fun i x e => (h2 i x e).1, fun i j x y a e1 e2 o1 o2 _ _ => ?_⟩, w, nd, fun a ha => hide_in ha, fun i x a e1 o1 _ => ?_⟩
  · rw [(h2 i x e1).2] at o1
    cases o1
  · rw [(h2 i x e1).2] at o1
    cases o1
/-- a new object joins the world -/
theorem WSd.add {c : Wc} (S : WSd K F0 H0 F H σ env ω) (g : Gr F H F' H') (hn : ∀ a, a ∈ wcFoot c → H a = none) (hc : WcOk K F' H' c) (hF : ∀ a, a ∈ wcFoot c → F' a = none) (nd : (wcFoot c).Nodup) : WSd K F0 H0 F' H' σ env (c :: ω) := by
  have S1 := S.grow g
  have ef : foots (c :: ω) = wcFoot c ++ foots ω := by
    unfold foots
    rw [List.flatMap_cons]
  refine ⟨S1.s, ⟨fun q hq => ?_, fun a ha => ?_⟩, ?_, fun a ha => ?_, fun i s a e1 e2 e3 q => ?_⟩
  · rcases List.mem_cons.mp hq with z | z
    · rw [z]
      exact hc
    · exact S1.w.1 q z
  · rw [ef] at ha
    rcases List.mem_append.mp ha with z | z
    · exact hF a z
    · exact S1.w.2 a z
  · rw [ef, List.nodup_append]
    refine ⟨nd, S1.nd, fun a ha b hb e => ?_⟩
    obtain ⟨o, h1, _⟩ := wok_ob S.w hb
    rw [← e, hn a ha] at h1
    cases h1
  · rw [ef] at ha
    rcases List.mem_append.mp ha with z | z
    · exact S.s.gr.h.free (hn a z)
    · exact S1.h0 a z
  · rw [ef] at q
    rcases List.mem_append.mp q with z | z
    · have := S.s.ok i s e1
      cases s with
      | own ds =>
        obtain ⟨b, xs, z1, _, _, z4, _⟩ := this
        rw [e3] at z1
        cases z1
        rw [hn a z] at z4
        cases z4
      | keys ks =>
        obtain ⟨b, z1, _, _, z4⟩ := this
        rw [e3] at z1
        cases z1
        rw [hn a z] at z4
        cases z4
      | _ => cases e2
    · exact S1.ow i s a e1 e2 e3 z
end

/-! ### defs -/
section
variable {P : Program} {w : World} {K : PySem.W.Frag} {mg : Str → Option Value} {base : Heap}
theorem okM_def {x qual : Str} {st : Stmt} {f : Addr} {fd : FuncData} {N ps : List Str} {k : Nat} {G : List Av → List Wc → D → List Wc → Prop} (F : Fun K x qual st f fd) (S : FnScope N ps (defScope st)) (len : ∀ as ω d ω', G as ω d ω' → as.length = ps.length) (hno : ∀ as ω d ω', G as ω d ω' → ∀ g : Gs, Av.g g ∉ as)
    (hbody : ∀ (cdv : Value) (A : Around) (outer : List Env) (s : Shared) (H : Hp) (E : XK), Cz (cxOf (L2.CX P w) P w K mg base N qual (defScope st) f cdv A outer s H E) (fun cls d _ H => E cls d H) k → ∀ as ω d ω', G as ω d ω' →
      WBs (cxOf (L2.CX P w) P w K mg base N qual (defScope st) f cdv A outer s H E) (defBody st) (st0V N as) ω (.rt d ω')) : FnOk P w K mg base (L2.CX P w) (k + 1) f fd ps (spM K G) := by
  refine F.okX S (fun vs H Q E h => ?_) (fun cdv A outer s H vs Q E hr h => ?_)
  · obtain ⟨F', as, ω, d, ω', _, hd, _, _, hg, _⟩ := h
    rw [hd.len]
    exact len _ _ _ _ hg
  · obtain ⟨F', as, ω, d, ω', ex, hd, hw, nd, hg, hf, post⟩ := h
    obtain ⟨t, h1, h2⟩ := hbody cdv A outer s H E ⟨passes_of rfl, takes_of rfl rfl rfl rfl, hr, rfl, S.nd⟩ as ω d ω' hg
    refine ⟨t, h1, h2 F' (hide (foots ω) H) F' H _ _ (wsd_start ex hd (hno _ _ _ _ hg) hw nd) fun v F2 H2 gr w2 hv => ?_⟩
    refine post v F2 H2 ⟨gr.f, fun a o e ha => gr.h a o (by rw [hide_out ha]; exact e), gr.s, fun a o e1 e2 => ?_⟩ w2 hv
    by_cases ha : a ∈ foots ω
    · have := w2.2 a (by rw [hf]; exact ha)
      rw [e2] at this
      cases this
    · have := gr.n a o e1 e2
      rw [hide_out ha] at this
      exact this
theorem fn_or {CX : CXT} {k : Nat} {f : Addr} {fd : FuncData} {ps : List Str} {sp1 sp2 : Sp} (F1 : FnOk P w K mg base CX k f fd ps sp1) (F2 : FnOk P w K mg base CX k f fd ps sp2) : FnOk P w K mg base CX k f fd ps (fun vs H Q E => sp1 vs H Q E ∨ sp2 vs H Q E) := by
  refine ⟨fun vs H Q E h => ?_, fun A outer s H args us vs Q E hr he hb hv hs => ?_⟩
  · rcases h with h | h
    · exact F1.len _ _ _ _ h
    · exact F2.len _ _ _ _ h
  · rcases hs with h | h
    · exact F1.run A outer s H args us vs Q E hr he hb hv h
    · exact F2.run A outer s H args us vs Q E hr he hb hv h
end

/-! ### try, for -/
section
variable {X : Cx} {W : WX} {T : Nat → Prop} {env env1 : List Sl} {ω ω1 ωr : List Wc} {e a b o it : Expr} {es : List Expr} {d : D} {ds : List D} {pos p2 p3 p4 apos : Pos} {x y m : Str} {as : List Av} {k k' : Nat} {sp : Sp} {g : Gs} {out : WO} {rest : List Stmt} {C : Addr}
theorem wb_tryOk (i : Nat) {n : Str} {body suite : List Stmt} {b₀ : Stmt} {np pos' : Pos} {CL : Addr} (hm : X.mg y = some (.ref CL)) (hb : ∀ (pn : List (Addr × Obj)) (xe : Value → Shared → Prop), PassesOwn (model X.prog X.w) X.A X.env xe → WBs (X.tr pn xe) body env ω (.nx env1 ω1))
    (nd : X.N.Nodup) (hs : X.stack = X.env :: X.outer := by rfl) (hf : X.env.frame = some X.env.locals := by rfl) (hi : X.N[i]? = some n := by rfl) (hln : X.env.kindOf n = some .local := by rfl) (hg : Gl X y := by rfl) (hdb : (y == ("__debug__" : Str)) = false := by decide) :
    WB X (.Try body [.ExceptHandler (some (.Name y np)) (some n) (b₀ :: suite) pos'] [] [] pos) env ω (.nx env1 ω1) := by
  refine ⟨_, ps_try_as (i := i) (tb := fun W' D σ H => ∀ pn xe, PassesOwn (model X.prog X.w) X.A X.env xe → ∃ t, PSs (X.tr pn xe) body t ∧ t D σ H) (ts := fun _ _ _ _ _ _ => False) (Wout := fun _ _ _ _ => False) hs hf nd hi hln ⟨hg, hdb, .inl hm⟩ takes0
    (fun W' pn xe tk hp => ⟨fun pins s σ H D I h => by obtain ⟨t, h1, h2⟩ := h pn xe hp; exact h1.run pins s σ H D I h2⟩) (fun a oe cls d pn hz hf => ⟨fun _ _ _ _ _ _ h => False.elim h⟩), fun F0 H0 F H σ D S p => ?_⟩
  intro pn xe hp
  obtain ⟨t, h1, h2⟩ := hb pn xe hp
  exact ⟨t, h1, h2 F0 H0 F H σ D S p⟩
inductive WLp (body : List Sl → List Wc → WO → Prop) (j : Nat) : List D → List Sl → List Wc → WO → Prop
  | nil {env : List Sl} {ω : List Wc} : WLp body j [] env ω (.nx env ω)
  | nx {d : D} {ds : List D} {env env1 : List Sl} {ω ω1 : List Wc} {out : WO} (h : body (env.set j (.v d)) ω (.nx env1 ω1)) (r : WLp body j ds env1 ω1 out) : WLp body j (d :: ds) env ω out
theorem wb_for (j : Nat) {body : List Stmt} (hp : PassesOwn (model X.prog X.w) X.A X.env X.xe) (hc : X.calm = true) (nd : X.N.Nodup) (hI : BI X (.Name x p2) it env ds) (lp : WLp (WBs X body) j ds env ω out) (hj : X.N[j]? = some x := by rfl)
    (hx : Loc X.env.scope x := by first | exact Or.inl rfl | exact Or.inr rfl) (hs : ∀ x, foldedSetIterable it X.env x = pure x := by intro _; rfl) (hf : X.fn x = true ∨ X.env.scope.names.lookup x = some .local := by first | exact .inl rfl | exact .inr rfl | assumption) : WB X (.For (.Name x p2) it body [] pos) env ω out := by
  obtain ⟨wi, w1, w2⟩ := hI
  refine ⟨_, ps_for hp hc w1 (pg_name nd hj hx hf) tAny_ok hs, fun F0 H0 F H σ D S p => ?_⟩
  refine w2 F0 (seen (foots ω) H0 H) F H σ S.up _ fun J F' H' g wk => ?_
  refine ⟨fun i m σ1 H1 => m = ds.length - i ∧ i ≤ ds.length ∧ ∃ env1 ω1 F1, Ex F' F1 ∧ WSd X.K F0 H0 F1 H1 σ1 env1 ω1 ∧ WLp (WBs X body) j (ds.drop i) env1 ω1 out, ⟨_, rfl, Nat.zero_le _, env, ω, F', Same.refl _, S.grow g, lp⟩, ?_⟩
  rintro i m σ1 H1 ⟨rfl, hi, env1, ω1, F1, e1, S1, lp1⟩
  by_cases hlt : i < ds.length
  · obtain ⟨d, hd⟩ : ∃ d, ds[i]? = some d := ⟨ds[i], List.getElem?_eq_getElem hlt⟩
    have hdr : ds.drop i = d :: ds.drop (i + 1) := by
      rw [List.drop_eq_getElem_cons hlt]
      rw [List.getElem?_eq_getElem hlt] at hd
      cases hd
      rfl
    rw [hdr] at lp1
    obtain ⟨g1, y1⟩ := wk.go F1 H1 σ1 i d ⟨e1, S1.s.ex⟩ hd
    refine .inr ⟨g1, fun σ' H' => i + 1 ≤ ds.length ∧ ∃ env2 ω2 F2, Ex F' F2 ∧ WSd X.K F0 H0 F2 H' σ' env2 ω2 ∧ WLp (WBs X body) j (ds.drop (i + 1)) env2 ω2 out, fun σ' H' ⟨h1, h2⟩ => ⟨_, (by omega : ds.length - (i + 1) < ds.length - i), rfl, h1, h2⟩, fun x H2 y => ?_⟩
    obtain ⟨rfl, hx⟩ := y1 x H2 y
    show tAny X body _ (σ1.set j (some x)) H2
    cases lp1 with
    | nx h r =>
      obtain ⟨t, t1, t2⟩ := h
      exact ⟨t, t1, t2 F0 H0 F1 H2 _ _ (S1.set_v hx) fun F3 H3 σ3 e3 S3 => ⟨hlt, _, _, F3, e1.trans e3, S3, r⟩⟩
  · have e : i = ds.length := by omega
    subst e
    rw [List.drop_length] at lp1
    cases lp1
    exact .inl ⟨wk.stop F1 H1 σ1 ⟨e1, S1.s.ex⟩, p F1 H1 σ1 (g.f.trans e1) S1⟩
/-- a fold over the world -/
theorem wlp_fold {α β : Type} {body : List Sl → List Wc → WO → Prop} {j : Nat} (mk : β → List Sl) (wo : β → List Wc) (g : α → D) (step : β → α → β) (I : β → Prop) : ∀ (xs : List α) (s : β), I s → (∀ s x, x ∈ xs → I s → body ((mk s).set j (.v (g x))) (wo s) (.nx (mk (step s x)) (wo (step s x))) ∧ I (step s x)) →
    WLp body j (xs.map g) (mk s) (wo s) (.nx (mk (xs.foldl step s)) (wo (xs.foldl step s))) ∧ I (xs.foldl step s)
  | [], s, hs, _ => ⟨.nil, hs⟩
  | x :: r, s, hs, h => by
    obtain ⟨h1, h2⟩ := h s x List.mem_cons_self hs
    obtain ⟨h3, h4⟩ := wlp_fold mk wo g step I r (step s x) h2 fun s' x' hx hs' => h s' x' (List.mem_cons_of_mem _ hx) hs'
    exact ⟨.nx h1 h3, h4⟩
/-- with an empty world one begins -/
theorem bss_world (h : WBs X rest env [] (.rt d ω1)) : BSs X W T rest env (.rt (.ok d)) := by
  obtain ⟨t, p1, q1⟩ := h
  refine ⟨t, p1, fun F0 H0 F H σ D S p => q1 F0 H0 F H σ D ⟨S, ⟨fun c hc => by simp at hc, fun a ha => by simp [foots] at ha⟩, by simp [foots], fun a ha => by simp [foots] at ha, fun i s a _ _ _ => by simp [foots]⟩ fun v F' H' g _ hd => p v F' H' g hd⟩

theorem WBs.permR {A : List Stmt} {ω2 : List Wc} (h : WBs X A env ω (.rt d ω1)) (p : ω1.Perm ω2) : WBs X A env ω (.rt d ω2) := by
  obtain ⟨t, p1, q1⟩ := h
  exact ⟨t, p1, fun F0 H0 F H σ D S k => q1 F0 H0 F H σ D S fun v F' H' g w hd => k v F' H' g (w.perm p) hd⟩
theorem WBs.weak {A : List Stmt} (h : WBs X A env ω (.rt d ω1)) : WBs X A env ω (.rt d []) := by
  obtain ⟨t, p1, q1⟩ := h
  exact ⟨t, p1, fun F0 H0 F H σ D S k => q1 F0 H0 F H σ D S fun v F' H' g _ hd => k v F' H' g ⟨fun c hc => by simp at hc, fun a ha => by simp [foots] at ha⟩ hd⟩
theorem WBs.fgs {A : List Stmt} : ∀ (is : List Nat) {env1 : List Sl}, WBs X A env ω (.nx env1 ω1) → WBs X A env ω (.nx (is.foldl (fun e i => e.set i .no) env1) ω1)
  | [], _, h => h
  | i :: r, _, h => WBs.fgs r (WBs.fg i h)
theorem WT.to {b1 b2 : Bool} (h : WT X e env ω b1 ω1) (q : b1 = b2) : WT X e env ω b2 ω1 := q ▸ h
/-- y = [..], a comprehension that reads the world -/
theorem wb_comp (n i : Nat) {N : List Str} {sc : Scope} {py cpos : Pos} {elt : Expr} {ifs : List Expr} {scope : Scope} {rs : List D} {envv : List Sl} (hc : X.calm = true) (nd : X.N.Nodup) (v : VwE ω env envv) (hI : BI X (.Name x p2) it envv ds) (hb : blkC N sc scope [(x, i)] = true) (hil : i < envv.length)
    (cp : Comp (fun env b => ∀ s H C cl fp, BIfs (blkX X scope s H C cl fp) ifs env b) (fun env d => ∀ s H C cl fp, BE (blkX X scope s H C cl fp) elt env (.ok d)) envv i ds rs) (hz : rs.length ≤ sizeLine) (hn : noLs rs = true) (hN : X.N[i]? = some x := by rfl) (hx : ∀ (cl : List (Str × Addr)) (C : Addr), Loc (compEnvC scope cl C X.env).scope x := by intro _ _; first | exact Or.inl rfl | exact Or.inr rfl)
    (hf : ∀ (cl : List (Str × Addr)) (C : Addr), (scope.names.lookup x == some .cell) = true ∨ (compEnvC scope cl C X.env).scope.names.lookup x = some .local := by intro _ _; first | exact .inl rfl | exact .inr rfl) (hs : ∀ x, foldedSetIterable it X.env x = pure x := by intro _; rfl)
    (hy : X.N[n]? = some y := by rfl) (hyl : X.env.scope.names.lookup y = some .local := by rfl) (hsw : swapsWith (.ListComp elt [⟨.Name x p2, it, ifs, 0⟩] scope cpos) (some (.Name y py)) pos.line X.env = pure true := by exact sw_true rfl rfl rfl (by decide +kernel)) (hNe : X.N = N := by rfl) (hsc : X.env.scope = sc := by rfl) :
    WB X (.Assign [.Name y py] (.ListComp elt [⟨.Name x p2, it, ifs, 0⟩] scope cpos) pos) env ω (.nx (env.set n (.v (.list rs))) ω) := by
  obtain ⟨wi, w1, w2⟩ := hI
  refine ⟨_, ps_setLc (own := [(x, i)]) (g := gName i) (tt := tAnyT X scope ifs) (te := tAnyE X scope elt) hc nd hy hyl hsw w1 (by rw [hNe, hsc]; exact blkOk_by hb) (fun s H C cl fp => pg_name nd hN (hx cl C) (hf cl C))
    (fun s H C cl fp => ⟨fun pins s1 σ H1 Q I h => by obtain ⟨t, h1, h2⟩ := h s H C cl fp; exact h1.run pins s1 σ H1 Q I h2⟩) (fun s H C cl fp => ⟨fun pins s1 σ H1 Q I h => by obtain ⟨t, h1, h2⟩ := h s H C cl fp; exact h1.run pins s1 σ H1 Q I h2⟩) hs, fun F0 H0 F H σ D S p => ?_⟩
  refine w2 H H H H σ (S.all v) _ fun J F' H' g wk => ?_
  refine comp_core (Q := fun x H1 => gName n x σ H1 D.nx) ((S.all v).grow g) hil wk cp hz (fun F2 H2 σ2 g2 => ⟨g2.f, g2.s⟩) fun q xs F2 H2 g2 h1 h2 h3 h4 => ?_
  have gg := g.trans g2
  have s' : Ex F H2 := S.s.ex.trans gg.h
  have g3 : Gr F H (satT F H2) H2 := (⟨Same.refl _, gg.h, s', fun a o h0 h1 => by rw [h0] at h1; cases h1⟩ : Gr F H F H2).trans (satT_gr s')
  have hd2 := dpAll_noL gg.s s' h4 hn
  have hq : H q = none := g.h.free h1
  have fy : satT F H2 q = none := by
    unfold satT
    rw [S.s.ex.free hq, h3]
  have g4 := gr_freeze g3 hq fy h3
  exact p _ H2 _ g4.f ((S.grow g4).set_v (.lst (.inl (.inl upd_same)) (dpAll_mono (Ex.new fy) hd2)))
/-! ### making a ground -/
/-- what __init__ keeps -/
def spI (K : PySem.W.Frag) (C B : Addr) (bad : D → Prop) (good : D → Int → Prop) : Sp := fun vs H Q E => ∃ F p dx d v, vs = [.ref p, v] ∧ H p = some (.ins C dx []) ∧ F p = none ∧ Ex F H ∧ Dp K F v d ∧
  ((bad d ∧ ∀ F' H', Gr F H F' H' → E (.ref B) none H') ∨ ∃ n, good d n ∧ ∀ q F' H', H q = none → GrW [p] F H F' H' → F' p = none → F' q = none → GAt K F' H' ⟨C, p, q, n, [], 0⟩ → Q .non H')
structure InS (P : Program) (w : World) (K : PySem.W.Frag) (mg : Str → Option Value) (base : Heap) (k : Nat) (x : Str) (C : Addr) (sp : Sp) : Prop where
  ex : ∃ (f : Addr) (fd : FuncData) (ps : List Str), FnOk P w K mg base (L2.CX P w) k f fd ps sp ∧ Mk K C f ∧ Binds K fd ps []
  g : mg x = some (.ref C)
theorem new_two {F H : Hp} {x dx C : Addr} (hx : H x = none) (hd : H dx = none) (hne : dx ≠ x) : Ex H (upd (upd H dx (.own x)) x (.ins C dx [])) := fun a o e => by
  rw [upd_ne (ne_of_none e hx), upd_ne (ne_of_none e hd)]
  exact e
/-- Ground(e) -/
def WM (X : Cx) (e : Expr) (env : List Sl) (C : Addr) (n : Int) : Prop :=
  ∃ t : TE, PE X e t ∧ ∀ (F0 H0 F H : Hp) (σ : L2.St) (ω : List Wc), WSd X.K F0 H0 F H σ env ω → ∀ Q : VK, (∀ p q F' H', Ex F F' → WSd X.K F0 H0 F' H' σ env (.g ⟨C, p, q, n, [], 0⟩ :: ω) → Q (.ref p) H') → t σ H Q
theorem wm_make {bad : D → Prop} {good : D → Int → Prop} {B : Addr} {n : Int} (h : InS X.prog X.w X.K X.mg X.base k x C (spI X.K C B bad good)) (hr : Room k' X.A) (hk : k + 1 ≤ k') (he : BE X e env (.ok d)) (hg : good d n) (hgl : Gl X x := by rfl) (hdb : (x == ("__debug__" : Str)) = false := by decide)
    (hse : starEach (e :: []) X.env = (false, eval e X.env) :: starEach [] X.env := by rfl) (hpl : (backTo pos (starEach [] X.env)).any (·.1) = false := by rfl) : WM X (.Call (.Name x p2) [e] [] pos) env C n := by
  obtain ⟨f, fd, ps, F, M, hb⟩ := h.ex
  obtain ⟨t, h1, h2⟩ := ba_cons he ba_nil hse
  refine ⟨_, pe_make M F (hr.mono hk) hgl h.g hb .nil passL h1 hdb hse hpl, fun F0 H0 F H σ ω S Q q => ?_⟩
  refine h2 F0 (seen (foots ω) H0 H) F H σ S.up _ fun vs F1 H1 g1 hv => ?_
  intro p dx hp hdx hne
  have S1 := S.grow g1
  cases hv with
  | @cons v _ _ _ k1 k2 =>
    cases k2
    have e2 := new_two (F := F1) (C := C) hp hdx hne
    refine ⟨F1, p, dx, d, v, rfl, upd_same, S1.s.ex.free hp, S1.s.ex.trans e2, k1, .inr ⟨n, hg, fun r F2 H2 hr2 gw fp fr ga => ⟨rfl, ?_⟩⟩⟩
    have hr1 : H1 r = none := e2.free hr2
    have gr : Gr F1 H1 F2 H2 := by
      refine ⟨gw.f, fun a o ea => gw.h a o (e2 a o ea) ?_, gw.s, fun a o z1 z2 => ?_⟩
      · simp only [List.mem_singleton]
        exact ne_of_none ea hp
      · rcases gw.n a o z1 z2 with z | z
        · exact .inl (e2.free z)
        · exact .inr z
    have hpr : p ≠ r := fun z => by
      rw [← z, upd_same] at hr2
      cases hr2
    exact q p r F2 H2 (g1.f.trans gw.f) (S1.add gr (fun a ha => by
      simp only [wcFoot, List.mem_cons, List.not_mem_nil, or_false] at ha
      rcases ha with rfl | rfl
      · exact hp
      · exact hr1) ga (fun a ha => by
      simp only [wcFoot, List.mem_cons, List.not_mem_nil, or_false] at ha
      rcases ha with rfl | rfl
      · exact fp
      · exact fr) (by simp [wcFoot, hpr]))
/-- x = [Ground(..), Ground(..)] -/
theorem wbs_mk2 (i : Nat) {pos' : Pos} {n0 n1 : Int} (nd : X.N.Nodup) (ha : WM X a env C n0) (hb : WM X b env C n1) (hr : ∀ p0 q0 p1 q1, WBs X rest (env.set i (.adrs [p0, p1])) [.g ⟨C, p1, q1, n1, [], 0⟩, .g ⟨C, p0, q0, n0, [], 0⟩] out)
    (hs1 : starEach (a :: [b]) X.env = (false, eval a X.env) :: starEach [b] X.env := by rfl) (hs2 : starEach (b :: []) X.env = (false, eval b X.env) :: starEach [] X.env := by rfl)
    (hi : X.N[i]? = some x := by rfl) (hx : Loc X.env.scope x := by first | exact Or.inl rfl | exact Or.inr rfl) (hs : swapsWith (.List [a, b] p2) (some (.Name x pos')) pos.line X.env = pure false := by rfl)
    (hf : X.fn x = true ∨ X.env.scope.names.lookup x = some .local := by first | exact .inl rfl | exact .inr rfl | assumption) : WBs X (.Assign [.Name x pos'] (.List [a, b] p2) pos :: rest) env [] out := by
  obtain ⟨t, t1, t2⟩ := ha
  obtain ⟨u, u1, u2⟩ := hb
  refine ⟨_, pss_cons (ps_set nd hi hx (pe_lst (pa_cons t1 (pa_cons u1 pa_nil hs2) hs1)) hs hf) tAny_ok, fun F0 H0 F H σ D S p => ?_⟩
  refine t2 F0 H0 F H σ [] S _ fun p0 q0 F1 H1 ex1 S1 => ?_
  refine u2 F0 H0 F1 H1 σ _ S1 _ fun p1 q1 F2 H2 ex2 S2 => ?_
  refine ⟨by show 2 ≤ sizeLine; decide, fun l hl => ?_⟩
  have g := gr_new (o := .lst [.ref p0, .ref p1]) S2.s.ex hl
  have S3 := S2.grow g
  obtain ⟨v, v1, v2⟩ := hr p0 q0 p1 q1
  refine ⟨v, v1, v2 F0 H0 _ _ _ D ?_ (p.fwd ((ex1.trans ex2).trans g.f))⟩
  have S4 := S3.drop (i := i) (o := some (.ref l))
  refine ⟨⟨S4.s.gr, by simp [S3.s.len], fun j s e => ?_, fun j m s t a e1 e2 o1 o2 e3 e4 => ?_⟩, S3.w, S3.nd, S3.h0, fun j s a e1 o1 e3 => ?_⟩
  · by_cases hj : i = j
    · subst hj
      by_cases hl2 : i < env.length
      · rw [List.getElem?_set_self hl2] at e
        cases e
        exact ⟨l, by rw [List.getElem?_set_self (by rw [S3.s.len]; exact hl2)], upd_same⟩
      · rw [List.getElem?_eq_none (by simpa using hl2)] at e
        cases e
    · rw [List.getElem?_set_ne hj] at e
      rw [List.getElem?_set_ne hj]
      exact S3.s.ok j s e
  · have nj : ∀ {m : Nat} {z : Sl}, (env.set i (.adrs [p0, p1]))[m]? = some z → z.isOwn = true → i ≠ m := fun {m z} w1 w2 w3 => by
      subst w3
      by_cases hl2 : i < env.length
      · rw [List.getElem?_set_self hl2] at w1
        cases w1
        cases w2
      · rw [List.getElem?_eq_none (by simpa using hl2)] at w1
        cases w1
    have m1 := nj e1 o1
    have m2 := nj e2 o2
    rw [List.getElem?_set_ne m1] at e1 e3
    rw [List.getElem?_set_ne m2] at e2 e4
    exact S3.s.di j m s t a e1 e2 o1 o2 e3 e4
  · by_cases hj : i = j
    · subst hj
      by_cases hl2 : i < env.length
      · rw [List.getElem?_set_self hl2] at e1
        cases e1
        cases o1
      · rw [List.getElem?_eq_none (by simpa using hl2)] at e1
        cases e1
    · rw [List.getElem?_set_ne hj] at e1 e3
      exact S3.ow j s a e1 o1 e3
/-- x = [[], []] -/
theorem wbs_two (i : Nat) {pos' pa pb : Pos} (nd : X.N.Nodup) (hr : ∀ r0 r1, WBs X rest (env.set i (.adrs [r0, r1])) (.l r1 [] :: .l r0 [] :: ω) out)
    (hi : X.N[i]? = some x := by rfl) (hx : Loc X.env.scope x := by first | exact Or.inl rfl | exact Or.inr rfl) (hs : swapsWith (.List [.List [] pa, .List [] pb] p2) (some (.Name x pos')) pos.line X.env = pure false := by rfl)
    (hf : X.fn x = true ∨ X.env.scope.names.lookup x = some .local := by first | exact .inl rfl | exact .inr rfl | assumption) : WBs X (.Assign [.Name x pos'] (.List [.List [] pa, .List [] pb] p2) pos :: rest) env ω out := by
  refine ⟨_, pss_cons (ps_set nd hi hx (pe_lst (pa_cons (pe_lst pa_nil) (pa_cons (pe_lst pa_nil) pa_nil))) hs hf) tAny_ok, fun F0 H0 F H σ D S p => ?_⟩
  refine ⟨Nat.zero_le _, fun r0 hr0 => ?_⟩
  have S1 : WSd X.K F0 H0 F (upd H r0 (.lst [])) σ env (.l r0 [] :: ω) := S.add (gr_newH S.s.ex hr0) (fun a ha => by
    simp only [wcFoot, List.mem_singleton] at ha
    rw [ha]
    exact hr0) ⟨[], upd_same, .nil⟩ (fun a ha => by
    simp only [wcFoot, List.mem_singleton] at ha
    rw [ha]
    exact S.s.ex.free hr0) (by simp [wcFoot])
  refine ⟨Nat.zero_le _, fun r1 hr1 => ?_⟩
  have S2 : WSd X.K F0 H0 F (upd (upd H r0 (.lst [])) r1 (.lst [])) σ env (.l r1 [] :: .l r0 [] :: ω) := S1.add (gr_newH S1.s.ex hr1) (fun a ha => by
    simp only [wcFoot, List.mem_singleton] at ha
    rw [ha]
    exact hr1) ⟨[], upd_same, .nil⟩ (fun a ha => by
    simp only [wcFoot, List.mem_singleton] at ha
    rw [ha]
    exact S1.s.ex.free hr1) (by simp [wcFoot])
  refine ⟨by show 2 ≤ sizeLine; decide, fun l hl => ?_⟩
  have g := gr_new (o := .lst [.ref r0, .ref r1]) S2.s.ex hl
  have S3 := S2.grow g
  obtain ⟨v, v1, v2⟩ := hr r0 r1
  refine ⟨v, v1, v2 F0 H0 _ _ _ D ?_ (p.fwd g.f)⟩
  have S4 := S3.drop (i := i) (o := some (.ref l))
  refine ⟨⟨S4.s.gr, by simp [S3.s.len], fun j s e => ?_, fun j m s t a e1 e2 o1 o2 e3 e4 => ?_⟩, S3.w, S3.nd, S3.h0, fun j s a e1 o1 e3 => ?_⟩
  · by_cases hj : i = j
    · subst hj
      by_cases hl2 : i < env.length
      · rw [List.getElem?_set_self hl2] at e
        cases e
        exact ⟨l, by rw [List.getElem?_set_self (by rw [S3.s.len]; exact hl2)], upd_same⟩
      · rw [List.getElem?_eq_none (by simpa using hl2)] at e
        cases e
    · rw [List.getElem?_set_ne hj] at e
      rw [List.getElem?_set_ne hj]
      exact S3.s.ok j s e
  · have nj : ∀ {m : Nat} {z : Sl}, (env.set i (.adrs [r0, r1]))[m]? = some z → z.isOwn = true → i ≠ m := fun {m z} w1 w2 w3 => by
      subst w3
      by_cases hl2 : i < env.length
      · rw [List.getElem?_set_self hl2] at w1
        cases w1
        cases w2
      · rw [List.getElem?_eq_none (by simpa using hl2)] at w1
        cases w1
    have m1 := nj e1 o1
    have m2 := nj e2 o2
    rw [List.getElem?_set_ne m1] at e1 e3
    rw [List.getElem?_set_ne m2] at e2 e4
    exact S3.s.di j m s t a e1 e2 o1 o2 e3 e4
  · by_cases hj : i = j
    · subst hj
      by_cases hl2 : i < env.length
      · rw [List.getElem?_set_self hl2] at e1
        cases e1
        cases o1
      · rw [List.getElem?_eq_none (by simpa using hl2)] at e1
        cases e1
    · rw [List.getElem?_set_ne hj] at e1 e3
      exact S3.ow j s a e1 o1 e3
/-- Ground(e) raises, in a try's body -/
theorem pe_makeW {E : L2.St → XK} {f : Addr} {fd : FuncData} {ps : List Str} {t : TA} (M : Mk X.K C f) (F : FnOk X.prog X.w X.K X.mg X.base (L2.CX X.prog X.w) k f fd ps sp) (hr : Room (k + 1) X.A) (hgl : Gl X x) (hm : X.mg x = some (.ref C)) (hb : Binds X.K fd ps [])
    (hx : ∀ σ, PassesAt (L2.CX X.prog X.w) X σ (E σ)) (ha : PA X (e :: es) t) (hdb : (x == ("__debug__" : Str)) = false := by decide) (hse : starEach (e :: es) X.env = (false, eval e X.env) :: starEach es X.env := by rfl) (hpl : (backTo pos (starEach es X.env)).any (·.1) = false := by rfl) :
    PE X (.Call (.Name x p2) (e :: es) [] pos) (fun σ H Q => t σ H fun vs H1 => ∀ p dx, H1 p = none → H1 dx = none → dx ≠ p → sp (.ref p :: vs) (upd (upd H1 dx (.own p)) p (.ins C dx [])) (fun v H2 => v = .non ∧ Q (.ref p) H2) (E σ)) := by
  refine ⟨fun pn s0 σ0 H0 Q0 I0 h0 => ?_⟩
  refine wpAny_Call_Name_kw (ld_glob I0 hgl hm ?_ hdb)
  refine PySem.W.callWith_K (h₀ := X.base) I0.ok.mod.kin M.kp (thn (ha.run pos pn s0 σ0 H0 _ I0 h0) fun us s1 hs1 => ?_) hse hpl
  obtain ⟨vs, H1, I1, r1, q1⟩ := hs1
  refine ⟨I1.kIn, ?_⟩
  have ask := q1 (s1.heap.objs.size + 1) s1.heap.objs.size (I1.hok.fresh (Nat.le_succ _)) (I1.hok.fresh (Nat.le_refl _)) (Nat.ne_of_lt (Nat.lt_succ_self _))
  have I2 := Inv.made (C := C) I1
  have r2 : Vals (V.ref (s1.heap.objs.size + 1) :: vs) (Value.ref (s1.heap.objs.size + 1) :: us) := .cons rfl r1
  have lenU : (Value.ref (s1.heap.objs.size + 1) :: us).length = ps.length := r2.length.symm.trans (F.len _ _ _ _ ask)
  have bnd := hb _ (Value.ref (s1.heap.objs.size + 1) :: us) I2.kIn (by rw [List.append_nil]; exact lenU)
  rw [List.append_nil] at bnd
  refine wpAny_call (make_map (f := f) I1.kIn M.makes M.init (beq_iff_eq.mp M.fn) (codeAny_mono (F.run _ X.stack _ _ ⟨Value.ref (s1.heap.objs.size + 1) :: us, []⟩ _ _ _ (E σ0) (hr.make C us []) (I2.env0.make C us []) bnd r2 ask) fun res s3 hq => ?_))
  cases res with
  | error er => exact hx σ0 pn _ _ er s3 I2 hq
  | ok fl =>
    cases fl with
    | ret u =>
      obtain ⟨v, H', I3, rv, ev, q3⟩ := I2.after hq
      subst ev
      exact ⟨rv, ⟨V.ref (s1.heap.objs.size + 1), H', I3, rfl, q3⟩⟩
    | next => exact False.elim hq
    | brk => exact False.elim hq
    | cont => exact False.elim hq
theorem bx_makeI {bad : D → Prop} {good : D → Int → Prop} {B : Addr} (h : InS X.prog X.w X.K X.mg X.base k x C (spI X.K C B bad good)) (tk : Takes X W) (hr : Room k' X.A) (hk : k + 1 ≤ k') (he : BE X e env (.ok d)) (hg : bad d) (hgl : Gl X x := by rfl) (hdb : (x == ("__debug__" : Str)) = false := by decide)
    (hse : starEach (e :: []) X.env = (false, eval e X.env) :: starEach [] X.env := by rfl) (hpl : (backTo pos (starEach [] X.env)).any (·.1) = false := by rfl) : BX X W (.Call (.Name x p2) [e] [] pos) env B := by
  obtain ⟨f, fd, ps, F, M, hb⟩ := h.ex
  obtain ⟨t, h1, h2⟩ := ba_cons he ba_nil hse
  refine ⟨_, pe_makeW (E := L2.WE W) M F (hr.mono hk) hgl h.g hb (fun σ => passAt tk σ) h1 hdb hse hpl, fun F0 H0 F H σ S Q q => ?_⟩
  refine h2 F0 H0 F H σ S _ fun vs F1 H1 g1 hv => ?_
  intro p dx hp hdx hne
  have S1 := S.grow g1
  cases hv with
  | @cons v _ _ _ k1 k2 =>
    cases k2
    have e2 := new_two (F := F1) (C := C) hp hdx hne
    refine ⟨F1, p, dx, d, v, rfl, upd_same, S1.ex.free hp, S1.ex.trans e2, k1, .inl ⟨hg, fun F2 H2 gr => q F2 H2 (g1.trans ⟨gr.f, e2.trans gr.h, gr.s, fun a o z1 z2 => ?_⟩)⟩⟩
    rcases gr.n a o z1 z2 with z | z
    · exact .inl (e2.free z)
    · exact .inr z
end
/-! ### what the top has of a class's defs -/
def MethT (K : PySem.W.Frag) (C : Addr) (m qual : Str) (st : Stmt) : Prop := ∃ (f : Addr) (fd : FuncData), Fun K m qual st f fd ∧ Meth K C m f
theorem methT_mk {K : PySem.W.Frag} {C f : Addr} {m qual : Str} {st : Stmt} {oc : Value} {od an : Option Addr} {osl : Array (Option Value)} {kV doc pm cdv ct : Value} (a : PySem.W.findIn K (.ref C) m = some (some (.ref f))) (i : PySem.W.isFn K (.ref f) = true)
    (l : K.lookup f = some ⟨oc, od, .func (PySem.W.fnOf m qual (defArgs st) (defBody st) (defScope st) .none kV doc pm an cdv ct), osl⟩) (c : PySem.W.codeIn K cdv qual = true) (k : PySem.W.keepIn K (.ref f) = true) : MethT K C m qual st :=
  ⟨f, _, fun_mk l c k, ⟨a, i, k⟩⟩
theorem mkT_of {K : PySem.W.Frag} {C : Addr} {qual : Str} {st : Stmt} (h : MethT K C "__init__" qual st) (mk : PySem.W.makesIn K C = true) (kp : PySem.W.keepIn K (.ref C) = true) : ∃ (f : Addr) (fd : FuncData), Fun K "__init__" qual st f fd ∧ Mk K C f := by
  obtain ⟨f, fd, F, h1⟩ := h
  exact ⟨f, fd, F, ⟨mk, h1.at_, h1.fn, kp⟩⟩
/-! ### __init__ -/
theorem putF_init {n : V} {q : Addr} : putF "came" (.int 0) (putF "kept" (.ref q) (putF "size" n [])) = ([("size", n), ("kept", .ref q), ("came", .int 0)] : List (Str × V)) := by
  have n1 : ¬ (("size" : Str) = ("came" : Str)) := by decide +kernel
  have n2 : ¬ (("kept" : Str) = ("came" : Str)) := by decide +kernel
  have n3 : ¬ (("size" : Str) = ("kept" : Str)) := by decide +kernel
  simp only [putF, if_neg n1, if_neg n2, if_neg n3]
theorem putF_two {n : V} {q : Addr} : putF "kept" (.ref q) (putF "size" n []) = ([("size", n), ("kept", .ref q)] : List (Str × V)) := by
  have n3 : ¬ (("size" : Str) = ("kept" : Str)) := by decide +kernel
  simp only [putF, if_neg n3]
section
variable {X : Cx} {C : Addr} {st : Stmt} {pos1 pos2 pos3 p1 p2 p3 p4 p5 p6 p7 p8 p9 : Pos} {x y : Str}
theorem bss_init {p : Addr} {n : Int} {jj : Nat} (c : GCls X.K C) (h : BS X W0 TAll st [.adr p, .v (.int n)] (.nx [.adr p, .v (.int n)])) (hN : X.N[0]? = some x := by rfl) (hM : X.N[1]? = some y := by rfl) (hv : Vis X.env.scope x := by first | exact Or.inl rfl | exact Or.inr (Or.inl rfl) | exact Or.inr (Or.inr rfl)) (hdd : (x == ("__debug__" : Str)) = false := by decide)
    (hcd : (x == ("__classdict__" : Str)) = false := by decide) (hv2 : Vis X.env.scope y := by first | exact Or.inl rfl | exact Or.inr (Or.inl rfl) | exact Or.inr (Or.inr rfl)) (hdd2 : (y == ("__debug__" : Str)) = false := by decide) (hcd2 : (y == ("__classdict__" : Str)) = false := by decide)
    (hs1 : swapsWith (.Name y p3) (some (.Attribute (.Name x p1) "size" p2)) pos1.line X.env = pure false := by rfl) (hs2 : swapsWith (.Dict [] [] p6) (some (.Attribute (.Name x p4) "kept" p5)) pos2.line X.env = pure false := by rfl) (hs3 : swapsWith (.Constant (.int 0) jj p9) (some (.Attribute (.Name x p7) "came" p8)) pos3.line X.env = pure false := by rfl) :
    ∃ t, PSs X [st, .Assign [.Attribute (.Name x p1) "size" p2] (.Name y p3) pos1, .Assign [.Attribute (.Name x p4) "kept" p5] (.Dict [] [] p6) pos2, .Assign [.Attribute (.Name x p7) "came" p8] (.Constant (.int 0) jj p9) pos3] t ∧
      ∀ (F H : Hp) (σ : L2.St) (dx : Addr) (D : Ends), Ex F H → H p = some (.ins C dx []) → F p = none → Sd X.K F H F H σ [.adr p, .v (.int n)] →
        (∀ q F' H' σ', H q = none → GrW [p] F H F' H' → F' p = none → F' q = none → GAt X.K F' H' ⟨C, p, q, n, [], 0⟩ → D.nx σ' H') → t D σ H := by
  obtain ⟨t, h1, h2⟩ := h
  refine ⟨_, pss_cons h1 (pss_cons (ps_fld (pe_var hN hv hdd hcd) (pe_var hM hv2 hdd2 hcd2) hs1) (pss_cons (ps_fld (pe_var hN hv hdd hcd) pe_dnewK hs2) (pss_one (ps_fld (pe_var hN hv hdd hcd) pe_int hs3)))), fun F H σ dx D ex hp fp S post => ?_⟩
  refine h2 F H F H σ _ S fun F1 H1 σ1 _ _ S1 => ?_
  have hp1 := S1.gr.h _ _ hp
  have fp1 := own_stays S1.gr fp hp (fun _ z => nomatch z)
  have e0 : σ1[0]? = some (some (.ref p)) := S1.ok 0 (.adr p) rfl
  obtain ⟨v, e1, hv⟩ := S1.ok 1 (.v (.int n)) rfl
  have ev := dp_int hv
  subst ev
  refine ⟨_, e1, _, e0, p, C, dx, [], rfl, hp1, c.cl, c.nS, by decide, ?_⟩
  intro q hq
  have npq : p ≠ q := fun z => by
    rw [← z, upd_same] at hq
    cases hq
  have hq1 : H1 q = none := by
    rw [upd_ne (Ne.symm npq)] at hq
    exact hq
  refine ⟨_, e0, p, C, dx, _, rfl, (by rw [upd_ne npq]; exact upd_same), c.cl, c.nK, by show 1 < 1000; decide, ?_⟩
  refine ⟨_, e0, p, C, dx, _, rfl, upd_same, c.cl, c.nC, by rw [putF_two]; show 2 < 1000; decide, ?_⟩
  rw [putF_init]
  refine post q F1 _ _ (S1.gr.h.free hq1) ⟨S1.gr.f, fun a o ea ha => ?_, fun a o ea => ?_, S1.gr.n⟩ fp1 (S1.ex.free hq1) ⟨dx, [], upd_same, ?_, rfl, .nil⟩
  · have na : a ≠ p := fun z => ha (by rw [z]; exact List.mem_cons_self)
    have e1' := S1.gr.h a o ea
    rw [upd_ne na, upd_ne na, upd_ne (ne_of_none e1' hq1), upd_ne na]
    exact e1'
  · have na : a ≠ p := ne_of_none ea fp1
    have e1' := S1.ex a o ea
    rw [upd_ne na, upd_ne na, upd_ne (ne_of_none e1' hq1), upd_ne na]
    exact e1'
  · show upd _ p _ q = _
    rw [upd_ne (Ne.symm npq), upd_ne (Ne.symm npq), upd_same]
end
section
variable {P : Program} {w : World} {K : PySem.W.Frag} {mg : Str → Option Value} {base : Heap}
theorem okI_def {x qual : Str} {st : Stmt} {f : Addr} {fd : FuncData} {N ps : List Str} {k : Nat} {C B : Addr} {bad : D → Prop} {good : D → Int → Prop} (F : Fun K x qual st f fd) (S : FnScope N ps (defScope st)) (hl : ps.length = 2) (hN : N.length = 2) (hdef : ∀ d n, good d n → d = .int n)
    (hbad : ∀ (cdv : Value) (A : Around) (outer : List Env) (s : Shared) (H : Hp) (E : XK), Cz (cxOf (L2.CX P w) P w K mg base N qual (defScope st) f cdv A outer s H E) (fun cls d _ H => E cls d H) k → ∀ p d, bad d → ∃ env, BSs (cxOf (L2.CX P w) P w K mg base N qual (defScope st) f cdv A outer s H E) (fun cls d _ H => E cls d H) TAll (defBody st) [.adr p, .v d] (.er B env))
    (hgood : ∀ (cdv : Value) (A : Around) (outer : List Env) (s : Shared) (H : Hp) (E : XK), Cz (cxOf (L2.CX P w) P w K mg base N qual (defScope st) f cdv A outer s H E) (fun cls d _ H => E cls d H) k → ∀ p n, good (.int n) n → ∃ t, PSs (cxOf (L2.CX P w) P w K mg base N qual (defScope st) f cdv A outer s H E) (defBody st) t ∧
      ∀ (F H : Hp) (σ : L2.St) (dx : Addr) (D : Ends), Ex F H → H p = some (.ins C dx []) → F p = none → Sd K F H F H σ [.adr p, .v (.int n)] →
        (∀ q F' H' σ', H q = none → GrW [p] F H F' H' → F' p = none → F' q = none → GAt K F' H' ⟨C, p, q, n, [], 0⟩ → D.nx σ' H') → t D σ H) : FnOk P w K mg base (L2.CX P w) (k + 1) f fd ps (spI K C B bad good) := by
  refine F.okX S (fun vs H Q E h => ?_) (fun cdv A outer s H vs Q E hr h => ?_)
  · obtain ⟨_, _, _, _, _, rfl, _⟩ := h
    rw [hl]
    rfl
  · obtain ⟨F', p, dx, d, v, rfl, hp, fp, ex, hd, h⟩ := h
    have S0 : Sd K F' H F' H (L2.start N [.ref p, v]) [.adr p, .v d] := by
      have := sd_startV (K := K) (N := N) (as := [.a p, .d d]) ex (.cons rfl (.cons hd .nil))
      have e : st0V N [.a p, .d d] = [.adr p, .v d] := by
        unfold st0V
        rw [hN]
        rfl
      rw [e] at this
      exact this
    have cz : Cz (cxOf (L2.CX P w) P w K mg base N qual (defScope st) f cdv A outer s H E) (fun cls d _ H => E cls d H) k := ⟨passes_of rfl, takes_of rfl rfl rfl rfl, hr, rfl, S.nd⟩
    rcases h with ⟨hb, post⟩ | ⟨n, hg, post⟩
    · obtain ⟨env, t, h1, h2⟩ := hbad cdv A outer s H E cz p d hb
      exact ⟨t, h1, h2 F' H F' H _ _ S0 fun F2 H2 σ2 _ _ S2 => post F2 H2 S2.gr⟩
    · have := hdef d n hg
      subst this
      obtain ⟨t, h1, h2⟩ := hgood cdv A outer s H E cz p n hg
      exact ⟨t, h1, h2 F' H _ dx _ ex hp fp S0 fun q F2 H2 σ2 z1 z2 z3 z4 z5 => post q F2 H2 z1 z2 z3 z4 z5⟩
end
end PD
namespace LL
open PySem L2 PD
/-! ### plain -/
def isWhole : PyData → Bool
  | .int _ => true
  | _ => false
def isIntTy : PyData → Bool
  | .int _ => true
  | .bool _ => true
  | _ => false
def isBoolTy : PyData → Bool
  | .bool _ => true
  | _ => false
theorem kit_int (d : PyData) : kitB (tyN d) "int" = some (isIntTy d) := by
  cases d with
  | none => exact (by decide +kernel : kitB "NoneType" "int" = some false)
  | bool _ => exact (by decide +kernel : kitB "bool" "int" = some true)
  | int _ => exact (by decide +kernel : kitB "int" "int" = some true)
  | str _ => exact (by decide +kernel : kitB "str" "int" = some false)
  | list _ => exact (by decide +kernel : kitB "list" "int" = some false)
  | tuple _ => exact (by decide +kernel : kitB "tuple" "int" = some false)
  | dict _ => exact (by decide +kernel : kitB "dict" "int" = some false)
theorem kit_bool (d : PyData) : kitB (tyN d) "bool" = some (isBoolTy d) := by
  cases d with
  | none => exact (by decide +kernel : kitB "NoneType" "bool" = some false)
  | bool _ => exact (by decide +kernel : kitB "bool" "bool" = some true)
  | int _ => exact (by decide +kernel : kitB "int" "bool" = some false)
  | str _ => exact (by decide +kernel : kitB "str" "bool" = some false)
  | list _ => exact (by decide +kernel : kitB "list" "bool" = some false)
  | tuple _ => exact (by decide +kernel : kitB "tuple" "bool" = some false)
  | dict _ => exact (by decide +kernel : kitB "dict" "bool" = some false)
def isTupTy : PyData → Bool
  | .tuple _ => true
  | _ => false
theorem kit_tuple (d : PyData) : kitB (tyN d) "tuple" = some (isTupTy d) := by
  cases d with
  | none => exact (by decide +kernel : kitB "NoneType" "tuple" = some false)
  | bool _ => exact (by decide +kernel : kitB "bool" "tuple" = some false)
  | int _ => exact (by decide +kernel : kitB "int" "tuple" = some false)
  | str _ => exact (by decide +kernel : kitB "str" "tuple" = some false)
  | list _ => exact (by decide +kernel : kitB "list" "tuple" = some false)
  | tuple _ => exact (by decide +kernel : kitB "tuple" "tuple" = some true)
  | dict _ => exact (by decide +kernel : kitB "dict" "tuple" = some false)
def isListTy : PyData → Bool
  | .list _ => true
  | _ => false
theorem kit_list (d : PyData) : kitB (tyN d) "list" = some (isListTy d) := by
  cases d with
  | none => exact (by decide +kernel : kitB "NoneType" "list" = some false)
  | bool _ => exact (by decide +kernel : kitB "bool" "list" = some false)
  | int _ => exact (by decide +kernel : kitB "int" "list" = some false)
  | str _ => exact (by decide +kernel : kitB "str" "list" = some false)
  | list _ => exact (by decide +kernel : kitB "list" "list" = some true)
  | tuple _ => exact (by decide +kernel : kitB "tuple" "list" = some false)
  | dict _ => exact (by decide +kernel : kitB "dict" "list" = some false)
theorem whole_eq (d : PyData) : (isIntTy d && !isBoolTy d) = isWhole d := by cases d <;> rfl
/-- the greatest common divisor as the loop finds it -/
def gcdN (a b : Int) : Int := (Int.gcd a b : Nat)
theorem gcd_step {a b : Int} (ha : 0 ≤ a) (hb : 0 < b) : gcdN b (a % b) = gcdN a b := by
  obtain ⟨m, rfl⟩ := Int.eq_ofNat_of_zero_le ha
  obtain ⟨n, rfl⟩ := Int.eq_ofNat_of_zero_le (Int.le_of_lt hb)
  unfold gcdN
  have e : ((m : Int) % (n : Int)) = ((m % n : Nat) : Int) := by simp
  rw [e, Int.gcd_natCast_natCast, Int.gcd_natCast_natCast, Nat.gcd_comm m n, Nat.gcd_rec n m, Nat.gcd_comm]
theorem gcdN_nonneg (a b : Int) : 0 ≤ gcdN a b := by unfold gcdN; omega
theorem gcd_loop {test : List Sl → Bool → Prop} {body : List Sl → Out → Prop} (ht : ∀ (a b : Int) (r : Sl), test [.v (.int a), .v (.int b), r] (!decide (b = 0)))
    (hb : ∀ (a b : Int) (r : Sl), 0 < b → body [.v (.int a), .v (.int b), r] (.nx [.v (.int b), .v (.int (a % b)), .v (.int (a % b))])) :
    ∀ (n : Nat) (a b : Int) (r : Sl), 0 ≤ a → 0 ≤ b → b.toNat ≤ n → ∃ m, WLoop test body m [.v (.int a), .v (.int b), r] (.nx [.v (.int (gcdN a b)), .v (.int 0), if b = 0 then r else .v (.int 0)]) := by
  intro n
  induction n with
  | zero =>
    intro a b r ha hb0 hn
    have e : b = 0 := by omega
    subst e
    refine ⟨0, ?_⟩
    have h := WLoop.stop (test := test) (body := body) (n := 0) (env := [.v (.int a), .v (.int 0), r]) (by simpa using ht a 0 r)
    have e : gcdN a 0 = a := by unfold gcdN; simp; omega
    rw [e, if_pos rfl]
    exact h
  | succ n ih =>
    intro a b r ha hb0 hn
    by_cases e : b = 0
    · subst e
      refine ⟨0, ?_⟩
      have h := WLoop.stop (test := test) (body := body) (n := 0) (env := [.v (.int a), .v (.int 0), r]) (by simpa using ht a 0 r)
      have e : gcdN a 0 = a := by unfold gcdN; simp; omega
      rw [e, if_pos rfl]
      exact h
    · have hp : 0 < b := by omega
      have h0 := Int.emod_nonneg a e
      have h1 := Int.emod_lt_of_pos a hp
      obtain ⟨m, hm⟩ := ih b (a % b) (.v (.int (a % b))) hb0 h0 (by omega)
      refine ⟨m + 1, ?_⟩
      have e2 : (if a % b = 0 then Sl.v (.int (a % b)) else Sl.v (.int 0)) = Sl.v (.int 0) := by split <;> simp_all
      rw [e2, gcd_step ha hp] at hm
      rw [if_neg e]
      exact WLoop.nx (by simpa [e] using ht a b r) (hb a b r hp) hm
/-- a spot's three numbers, as the program makes them -/
abbrev Z3 := Int × Int × Int
def d3 (z : Z3) : PyData := .tuple [.int z.1, .int z.2.1, .int z.2.2]
def spotOf (x y b : Int) : Z3 :=
  let g := gcdN x.natAbs (gcdN y.natAbs b.natAbs)
  let p := if b < 0 then -g else g
  (x.fdiv p, y.fdiv p, b.fdiv p)
theorem gcdN_le {a b : Int} (hb : b ≠ 0) : gcdN a b ≠ 0 ∧ (gcdN a b).natAbs ≤ b.natAbs := by
  unfold gcdN
  have h1 : Int.gcd a b ∣ b.natAbs := Int.gcd_dvd_natAbs_right a b
  have h2 : 0 < b.natAbs := by omega
  have h3 := Nat.le_of_dvd h2 h1
  have h4 := Nat.pos_of_dvd_of_pos h1 h2
  omega
theorem spot_part {x y b : Int} (hb : b ≠ 0) (hl : b.natAbs < 2 ^ 8000) : gcdN x.natAbs (gcdN y.natAbs b.natAbs) ≠ 0 ∧ (gcdN x.natAbs (gcdN y.natAbs b.natAbs)).natAbs.log2 < 9000 := by
  obtain ⟨h1, h2⟩ := gcdN_le (a := y.natAbs) (b := b.natAbs) (by omega)
  obtain ⟨h3, h4⟩ := gcdN_le (a := x.natAbs) h1
  refine ⟨h3, Nat.lt_trans (PySem.Flt.log2_lt_of (Nat.zero_lt_succ 7999) ?_) (by decide)⟩
  refine Nat.lt_of_le_of_lt ?_ hl
  omega
/-- a cell of the script, 0 where there is none -/
def cellAt (ns : List Int) (k : Int) : Int := ns.getD k.toNat 0
theorem atI_map {α : Type} {f : α → PyData} {xs : List α} {k : Int} {x : α} (h0 : 0 ≤ k) (h : xs[k.toNat]? = some x) : atI (xs.map f) k = some (f x) := by
  have e : k = ((k.toNat : Nat) : Int) := by omega
  rw [e]
  exact atI_nat (by rw [List.getElem?_map, h]; rfl)
theorem atI_cell {ns : List Int} {k : Int} (h0 : 0 ≤ k) (h1 : k < ns.length) : atI (ns.map PyData.int) k = some (.int (cellAt ns k)) := by
  have hk : k.toNat < ns.length := by omega
  refine atI_map h0 ?_
  unfold cellAt
  rw [List.getD_eq_getElem?_getD, List.getElem?_eq_getElem hk]
  rfl
/-- a spot in lowest terms, the last number 1 or more -/
def goodSpot (z : Z3) : Bool := decide (0 < z.2.2) && decide (gcdN z.1.natAbs (gcdN z.2.1.natAbs z.2.2) = 1)
theorem spot_split (x y b : Int) (hb : b ≠ 0) : ∃ (p x' y' b' : Int), p ≠ 0 ∧ spotOf x y b = (x', y', b') ∧ x = p * x' ∧ y = p * y' ∧ b = p * b' ∧ 0 < b' ∧ Nat.gcd x'.natAbs (Nat.gcd y'.natAbs b'.natAbs) = 1 := by
  let g : Nat := Nat.gcd x.natAbs (Nat.gcd y.natAbs b.natAbs)
  have hg : gcdN x.natAbs (gcdN y.natAbs b.natAbs) = (g : Int) := by
    unfold gcdN
    rw [Int.gcd_natCast_natCast, Int.gcd_natCast_natCast]
  have hgx : (g : Int) ∣ x := Int.ofNat_dvd_left.mpr (Nat.gcd_dvd_left _ _)
  have hgy : (g : Int) ∣ y := Int.ofNat_dvd_left.mpr (Nat.dvd_trans (Nat.gcd_dvd_right _ _) (Nat.gcd_dvd_left _ _))
  have hgb : (g : Int) ∣ b := Int.ofNat_dvd_left.mpr (Nat.dvd_trans (Nat.gcd_dvd_right _ _) (Nat.gcd_dvd_right _ _))
  have hg0 : g ≠ 0 := by
    intro e
    rw [e] at hgb
    obtain ⟨k, hk⟩ := hgb
    omega
  obtain ⟨x1, hx1⟩ := hgx
  obtain ⟨y1, hy1⟩ := hgy
  obtain ⟨b1, hb1⟩ := hgb
  have hcop : Nat.gcd x1.natAbs (Nat.gcd y1.natAbs b1.natAbs) = 1 := by
    have e : g = g * Nat.gcd x1.natAbs (Nat.gcd y1.natAbs b1.natAbs) := by
      conv => lhs; unfold g
      rw [hx1, hy1, hb1, Int.natAbs_mul, Int.natAbs_mul, Int.natAbs_mul, Int.natAbs_natCast, Nat.gcd_mul_left, Nat.gcd_mul_left]
    have e2 : g * 1 = g * Nat.gcd x1.natAbs (Nat.gcd y1.natAbs b1.natAbs) := by rw [Nat.mul_one]; exact e
    exact (Nat.eq_of_mul_eq_mul_left (Nat.pos_of_ne_zero hg0) e2).symm
  have hgi : (g : Int) ≠ 0 := by omega
  have hgp : (0 : Int) < (g : Int) := by omega
  by_cases hn : b < 0
  · refine ⟨-(g : Int), -x1, -y1, -b1, by omega, ?_, by rw [Int.neg_mul_neg]; exact hx1, by rw [Int.neg_mul_neg]; exact hy1, by rw [Int.neg_mul_neg]; exact hb1, ?_, ?_⟩
    · unfold spotOf
      simp only [hg, hn, if_true]
      have f : ∀ z : Int, ((g : Int) * z).fdiv (-(g : Int)) = -z := fun z => by
        have e : (g : Int) * z = (-(g : Int)) * (-z) := (Int.neg_mul_neg _ _).symm
        rw [e, Int.mul_fdiv_cancel_left _ (by omega)]
      rw [hx1, hy1, hb1, f, f, f]
    · have h1 : (g : Int) * b1 < 0 := by rw [← hb1]; exact hn
      have h2 : b1 < 0 := by
        rcases Int.lt_or_le b1 0 with h | h
        · exact h
        · have := Int.mul_nonneg (Int.le_of_lt hgp) h
          omega
      omega
    · rw [Int.natAbs_neg, Int.natAbs_neg, Int.natAbs_neg]
      exact hcop
  · refine ⟨(g : Int), x1, y1, b1, hgi, ?_, hx1, hy1, hb1, ?_, hcop⟩
    · unfold spotOf
      simp only [hg, hn, if_false]
      rw [hx1, hy1, hb1, Int.mul_fdiv_cancel_left _ hgi, Int.mul_fdiv_cancel_left _ hgi, Int.mul_fdiv_cancel_left _ hgi]
    · have h1 : 0 < (g : Int) * b1 := by rw [← hb1]; omega
      rcases Int.lt_or_le 0 b1 with h | h
      · exact h
      · have := Int.mul_nonneg (Int.le_of_lt hgp) (by omega : 0 ≤ -b1)
        rw [Int.mul_neg] at this
        omega
theorem good_iff {x y b : Int} (hb : 0 < b) (h : Nat.gcd x.natAbs (Nat.gcd y.natAbs b.natAbs) = 1) : goodSpot (x, y, b) = true := by
  unfold goodSpot gcdN
  have e : (b.natAbs : Int) = b := by omega
  have e2 : Int.gcd (y.natAbs : Int) b = Nat.gcd y.natAbs b.natAbs := by rw [← e, Int.gcd_natCast_natCast, Int.natAbs_natCast]
  simp only [e2, Int.gcd_natCast_natCast, h]
  simp [hb]
theorem spotOf_good {x y b : Int} (hb : b ≠ 0) : goodSpot (spotOf x y b) = true := by
  obtain ⟨p, x', y', b', _, e, _, _, _, h1, h2⟩ := spot_split x y b hb
  rw [e]
  exact good_iff h1 h2
theorem spotOf_eq {x y b : Int} (hb : b ≠ 0) : (spotOf x y b).1 * b = x * (spotOf x y b).2.2 ∧ (spotOf x y b).2.1 * b = y * (spotOf x y b).2.2 := by
  obtain ⟨p, x', y', b', _, e, hx, hy, hbb, _, _⟩ := spot_split x y b hb
  rw [e]
  constructor
  · show x' * b = x * b'
    rw [hx, hbb, ← Int.mul_assoc, Int.mul_comm x' p]
  · show y' * b = y * b'
    rw [hy, hbb, ← Int.mul_assoc, Int.mul_comm y' p]
/-! ### fences, sizes -/
def okF (z : Z3) : Bool := decide (z.1.natAbs ≤ 1000) && decide (z.2.1.natAbs ≤ 1000) && decide (z.2.2.natAbs ≤ 1000000) && !(decide (z.1 = 0) && decide (z.2.1 = 0))
def fenceChk : PyData → Bool
  | .tuple [.int a, .int b, .int c] => okF (a, b, c)
  | _ => false
theorem fenceChk_d3 (z : Z3) : fenceChk (d3 z) = okF z := rfl
def sizeChk : PyData → Bool
  | .int n => decide (1 ≤ n) && decide (n ≤ 1000)
  | _ => false
def edgesZ (n : Int) : List Z3 := [(-1, 0, 0), (0, -1, 0), (1, 0, n), (0, 1, n)]
theorem d3_shaped (z : Z3) : SeqAt.shaped (d3 z) = true := rfl
theorem eqv_int (i j : Int) : PyData.eqv (.int i) (.int j) = decide (i = j) := by
  simp only [PyData.eqv]
  by_cases h : i = j <;> simp [h]
theorem eqv_d3 (z y : Z3) : PyData.eqv (d3 z) (d3 y) = decide (z = y) := by
  obtain ⟨a, b, c⟩ := z
  obtain ⟨a', b', c'⟩ := y
  show PyData.eqv (.tuple [.int a, .int b, .int c]) (.tuple [.int a', .int b', .int c']) = _
  simp only [PyData.eqv, PyData.eqvAll]
  by_cases h1 : a = a' <;> by_cases h2 : b = b' <;> by_cases h3 : c = c' <;> simp [h1, h2, h3]
theorem lay_map {α : Type} {f : α → PyData} (h : ∀ x, (f x).canLay0 = true) : ∀ xs : List α, PyData.canLayAll0 (xs.map f) = true
  | [] => by simp [PyData.canLayAll0]
  | x :: r => by
    rw [List.map_cons]
    simp only [PyData.canLayAll0, h x, lay_map h r, Bool.and_self]
theorem depth_map {α : Type} {f : α → PyData} {n : Nat} (h : ∀ x, (f x).depth ≤ n) : ∀ xs : List α, PyData.depthAll (xs.map f) ≤ n
  | [] => by simp [PyData.depthAll]
  | x :: r => by
    have h1 := h x
    have h2 := depth_map h r
    rw [List.map_cons]
    simp only [PyData.depthAll]
    omega
theorem shaped_list {α : Type} {f : α → PyData} (h : ∀ x, (f x).canLay0 = true) (h2 : ∀ x, (f x).depth ≤ 60) (xs : List α) : SeqAt.shaped (.list (xs.map f)) = true := by
  unfold SeqAt.shaped
  rw [Bool.and_eq_true]
  refine ⟨by simp only [PyData.canLay0]; exact lay_map h xs, decide_eq_true ?_⟩
  have := depth_map h2 xs
  simp only [PyData.depth]
  omega
theorem d3_lay (z : Z3) : (d3 z).canLay0 = true := rfl
theorem d3_depth (z : Z3) : (d3 z).depth ≤ 60 := by
  have : (d3 z).depth = 1 := rfl
  omega
theorem shaped_d3s (zs : List Z3) : SeqAt.shaped (.list (zs.map d3)) = true := shaped_list d3_lay d3_depth zs
theorem eqvAll_map {α : Type} [DecidableEq α] {f : α → PyData} (h : ∀ x y, PyData.eqv (f x) (f y) = decide (x = y)) : ∀ xs ys : List α, PyData.eqvAll (xs.map f) (ys.map f) = decide (xs = ys)
  | [], [] => by simp [PyData.eqvAll]
  | [], _ :: _ => by simp [PyData.eqvAll]
  | _ :: _, [] => by simp [PyData.eqvAll]
  | x :: r, y :: t => by
    rw [List.map_cons, List.map_cons]
    simp only [PyData.eqvAll, h, eqvAll_map h r t]
    by_cases h1 : x = y <;> by_cases h2 : r = t <;> simp [h1, h2]
theorem eqv_d3s (xs ys : List Z3) : PyData.eqv (.list (xs.map d3)) (.list (ys.map d3)) = decide (xs = ys) := by
  simp only [PyData.eqv]
  exact eqvAll_map eqv_d3 xs ys
theorem tup_of {d : PyData} (h : isTupTy d = true) : ∃ ds, d = .tuple ds := by
  cases d with
  | tuple ds => exact ⟨ds, rfl⟩
  | _ => cases h
theorem int_of {d : PyData} (h : isWhole d = true) : ∃ n, d = .int n := by
  cases d with
  | int n => exact ⟨n, rfl⟩
  | _ => cases h
theorem len3_of {ds : List PyData} (h : ds.length = 3) : ∃ x y z, ds = [x, y, z] := by
  match ds, h with
  | [x, y, z], _ => exact ⟨x, y, z, rfl⟩
theorem len2_of {ds : List PyData} (h : ds.length = 2) : ∃ x y, ds = [x, y] := by
  match ds, h with
  | [x, y], _ => exact ⟨x, y, rfl⟩
theorem chk_tup {d : PyData} (h : isTupTy d = false) : fenceChk d = false := by
  cases d with
  | tuple ds => cases h
  | _ => rfl
theorem chk_len {ds : List PyData} (h : ds.length ≠ 3) : fenceChk (.tuple ds) = false := by
  unfold fenceChk
  split
  · rename_i e
    cases e
    simp at h
  · rfl
theorem chk_whole {x y z : PyData} (h : ¬ (isWhole x = true ∧ isWhole y = true ∧ isWhole z = true)) : fenceChk (.tuple [x, y, z]) = false := by
  unfold fenceChk
  split
  · rename_i e
    injection e with e
    simp only [List.cons.injEq, and_true] at e
    obtain ⟨rfl, rfl, rfl⟩ := e
    exact absurd ⟨rfl, rfl, rfl⟩ h
  · rfl
/-- the first that is no whole number -/
theorem first_bad : ∀ ds : List PyData, ¬ (∀ d, d ∈ ds → isWhole d = true) → ∃ ds1 d0 ds2, ds = ds1 ++ d0 :: ds2 ∧ (∀ d, d ∈ ds1 → isWhole d = true) ∧ isWhole d0 = false
  | [], h => absurd (fun _ hd => absurd hd (by simp)) h
  | d :: r, h => by
    by_cases hd : isWhole d = true
    · obtain ⟨ds1, d0, ds2, e, h1, h2⟩ := first_bad r fun q => h fun x hx => by
        rcases List.mem_cons.mp hx with rfl | hx
        · exact hd
        · exact q x hx
      refine ⟨d :: ds1, d0, ds2, by rw [e]; rfl, fun x hx => ?_, h2⟩
      rcases List.mem_cons.mp hx with rfl | hx
      · exact hd
      · exact h1 x hx
    · exact ⟨[], d, r, rfl, fun _ hx => absurd hx (by simp), by simpa using hd⟩
theorem atI_menu {ds : List D} {j : Int} (h0 : 0 ≤ j) (h1 : j < ds.length) : atI ds j = some (ds.getD j.toNat .none) := by
  have e : j = ((j.toNat : Nat) : Int) := by omega
  have hk : j.toNat < ds.length := by omega
  generalize j.toNat = n at e hk ⊢
  subst e
  refine atI_nat ?_
  rw [List.getD_eq_getElem?_getD, List.getElem?_eq_getElem hk]
  rfl
theorem cellAt_mem {ns : List Int} {k : Int} (h0 : 0 ≤ k) (h1 : k < ns.length) : cellAt ns k ∈ ns := by
  have hk : k.toNat < ns.length := by omega
  unfold cellAt
  rw [List.getD_eq_getElem?_getD, List.getElem?_eq_getElem hk]
  exact List.getElem_mem hk
end LL
namespace LL
open PySem L2 PD
/-! ### how wide a number is -/
def Lw (n : Nat) (i : Int) : Prop := i.natAbs < 2 ^ n
theorem lw_mul {a b : Nat} {i j : Int} (h1 : Lw a i) (h2 : Lw b j) : Lw (a + b) (i * j) := wide_lt h1 h2
theorem lw_add {a : Nat} {i j : Int} (h1 : Lw a i) (h2 : Lw a j) : Lw (a + 1) (i + j) := by
  unfold Lw at *
  rw [Nat.pow_succ]
  omega
theorem lw_sub {a : Nat} {i j : Int} (h1 : Lw a i) (h2 : Lw a j) : Lw (a + 1) (i - j) := by
  unfold Lw at *
  rw [Nat.pow_succ]
  omega
theorem Lw.mono {a b : Nat} {i : Int} (h : Lw a i) (hab : a ≤ b) : Lw b i := Nat.lt_of_lt_of_le h (Nat.pow_le_pow_right (by decide) hab)
theorem lw_cm {a b : Nat} {i j : Int} (h1 : Lw a i) (h2 : Lw b j) (h0 : 0 < a) (h3 : 0 < b) (h : a + b ≤ 1000000) : CMulW i j := wide_mul h1 h2 h0 h3 h
/-- all three numbers below 2 ^ n -/
def Bz (n : Nat) (z : Z3) : Prop := Lw n z.1 ∧ Lw n z.2.1 ∧ Lw n z.2.2
theorem Bz.mono {a b : Nat} {z : Z3} (h : Bz a z) (hab : a ≤ b) : Bz b z := ⟨h.1.mono hab, h.2.1.mono hab, h.2.2.mono hab⟩
theorem lw64 {i : Int} (h : Lw 64 i) : -(2 ^ 64) < i ∧ i < 2 ^ 64 := by
  unfold Lw at h
  omega
/-! ### fences and spots -/
def reachZ (f s : Z3) : Int := f.1 * s.1 + f.2.1 * s.2.1 - f.2.2 * s.2.2
def crossZ (o p : Z3) : Int := o.1 * p.2.1 - o.2.1 * p.1
def meetZ (o p : Z3) : Z3 := spotOf (o.2.2 * p.2.1 - p.2.2 * o.2.1) (o.1 * p.2.2 - p.1 * o.2.2) (crossZ o p)
def turnZ (o t e : Z3) : Int := o.1 * (t.2.1 * e.2.2 - e.2.1 * t.2.2) - o.2.1 * (t.1 * e.2.2 - e.1 * t.2.2) + o.2.2 * (t.1 * e.2.1 - e.1 * t.2.1)
def meetD (o p : Z3) : PyData := if crossZ o p = 0 then .none else d3 (meetZ o p)
theorem spotOf_lw {n : Nat} {x y b : Int} (hb : b ≠ 0) (h1 : Lw n x) (h2 : Lw n y) (h3 : Lw n b) : Bz n (spotOf x y b) := by
  obtain ⟨p, x', y', b', hp, e, e1, e2, e3, _, _⟩ := spot_split x y b hb
  rw [e]
  have hp1 : 1 ≤ p.natAbs := by omega
  have k : ∀ z z' : Int, z = p * z' → z'.natAbs ≤ z.natAbs := fun z z' q => by
    rw [q, Int.natAbs_mul]
    exact Nat.le_mul_of_pos_left _ hp1
  exact ⟨Nat.lt_of_le_of_lt (k _ _ e1) h1, Nat.lt_of_le_of_lt (k _ _ e2) h2, Nat.lt_of_le_of_lt (k _ _ e3) h3⟩
theorem spotOf_pos {x y b : Int} (hb : b ≠ 0) : 0 < (spotOf x y b).2.2 := by
  obtain ⟨p, x', y', b', hp, e, e1, e2, e3, h, _⟩ := spot_split x y b hb
  rw [e]
  exact h
theorem cross_lw {n m : Nat} {o p : Z3} (h1 : Bz n o) (h2 : Bz m p) : Lw (n + m + 1) (crossZ o p) := lw_sub (lw_mul h1.1 h2.2.1) (lw_mul h1.2.1 h2.1)
theorem meet_lw {n : Nat} {o p : Z3} (h1 : Bz n o) (h2 : Bz n p) (h : crossZ o p ≠ 0) : Bz (n + n + 1) (meetZ o p) :=
  spotOf_lw h (lw_sub (lw_mul h1.2.2 h2.2.1) (lw_mul h2.2.2 h1.2.1)) (lw_sub (lw_mul h1.1 h2.2.2) (lw_mul h2.1 h1.2.2)) (cross_lw h1 h2)
/-- the meeting spot lies on both lines -/
theorem meet_on {o p : Z3} (h : crossZ o p ≠ 0) : reachZ o (meetZ o p) = 0 ∧ reachZ p (meetZ o p) = 0 := by
  obtain ⟨k, x', y', b', hk, e, e1, e2, e3, _, _⟩ := spot_split (o.2.2 * p.2.1 - p.2.2 * o.2.1) (o.1 * p.2.2 - p.1 * o.2.2) (crossZ o p) h
  have e' : meetZ o p = (x', y', b') := e
  rw [e']
  unfold reachZ
  simp only
  obtain ⟨a, b, c⟩ := o
  obtain ⟨a', b2, c'⟩ := p
  simp only at e1 e2 e3
  unfold crossZ at e3
  simp only at e3
  constructor
  · have : k * (a * x' + b * y' - c * b') = 0 := by
      have q : k * (a * x' + b * y' - c * b') = a * (k * x') + b * (k * y') - c * (k * b') := by grind
      rw [q, ← e1, ← e2, ← e3]
      grind
    rcases Int.mul_eq_zero.mp this with z | z
    · exact absurd z hk
    · exact z
  · have : k * (a' * x' + b2 * y' - c' * b') = 0 := by
      have q : k * (a' * x' + b2 * y' - c' * b') = a' * (k * x') + b2 * (k * y') - c' * (k * b') := by grind
      rw [q, ← e1, ← e2, ← e3]
      grind
    rcases Int.mul_eq_zero.mp this with z | z
    · exact absurd z hk
    · exact z
/-! ### what the laws draw -/
def sizeB (c : Int) : Int := if c / 12 % 5 = 1 then 1 + c / 60 % 1000 else 1 + c % 12
theorem sizeB_bd (c : Int) : 1 ≤ sizeB c ∧ sizeB c ≤ 1000 := by
  unfold sizeB
  split <;> omega
def farB (c : Int) : Int := c * 48271 % 2147483647
def fA (c : Int) : Int := if farB c / 49 % 6 = 1 ∨ farB c / 49 % 6 = 3 then c * 69621 % 2147483629 % 2001 - 1000 else farB c % 7 - 3
def fB (c : Int) : Int := if farB c / 49 % 6 = 1 ∨ farB c / 49 % 6 = 3 then c * 40692 % 2147483399 % 2001 - 1000 else farB c / 7 % 7 - 3
def fA2 (c : Int) : Int := if fA c = 0 ∧ fB c = 0 then 1 else fA c
def moreB (c : Int) : Int := c * 16807 % 2147483587
def fC (c s : Int) : Int := if farB c / 49 % 6 = 2 ∨ farB c / 49 % 6 = 3 then moreB c % 2000001 - 1000000 else fA2 c * (moreB c % (s + 1)) + fB c * (moreB c / 1009 % (s + 1)) + cellAt [0, 0, 0, 1, -1, 2, -3] (farB c / 294 % 7)
def fenceB (c s : Int) : Z3 := (fA2 c, fB c, max (-1000000) (min 1000000 (fC c s)))
theorem fA_bd (c : Int) : (fA c).natAbs ≤ 1000 := by
  unfold fA
  split <;> omega
theorem fB_bd (c : Int) : (fB c).natAbs ≤ 1000 := by
  unfold fB
  split <;> omega
theorem fA2_bd (c : Int) : (fA2 c).natAbs ≤ 1000 := by
  have := fA_bd c
  unfold fA2
  split <;> omega
theorem fenceB_ok (c s : Int) : okF (fenceB c s) = true := by
  have h1 := fA2_bd c
  have h2 := fB_bd c
  have h3 : ¬ (fA2 c = 0 ∧ fB c = 0) := by
    unfold fA2
    split <;> omega
  unfold okF fenceB
  simp
  omega
theorem okF_bd {z : Z3} (h : okF z = true) : z.1.natAbs ≤ 1000 ∧ z.2.1.natAbs ≤ 1000 ∧ z.2.2.natAbs ≤ 1000000 ∧ ¬ (z.1 = 0 ∧ z.2.1 = 0) := by
  unfold okF at h
  simp at h
  omega
theorem okF_lw {z : Z3} (h : okF z = true) : Bz 20 z := by
  obtain ⟨h1, h2, h3, _⟩ := okF_bd h
  unfold Bz Lw
  omega
def byB (c : Int) : Int := if c / 112 % 5 = 1 then 1 + c % 1000000000039 else 1 + c % 7
def xB (c s b : Int) : Int := if c / 7 % 4 = 1 then cellAt [0, s * b, -1, s * b + 1] (c / 28 % 4) else c * 6364136223846793005 % 2305843009213693951 % (s * b + 3) - 1
def yB (c o s b : Int) : Int := if c / 7 % 4 = 2 then cellAt [0, s * b, -1, s * b + 1] (c / 28 % 4) else o * 2862933555777941757 % 2305843009213693951 % (s * b + 3) - 1
def spotB (c o s : Int) : Z3 := spotOf (xB c s (byB c)) (yB c o s (byB c)) (byB c)
theorem byB_bd (c : Int) : 1 ≤ byB c ∧ byB c ≤ 1000000000039 := by
  unfold byB
  split <;> omega
theorem sb_bd {s b : Int} (hs : 1 ≤ s ∧ s ≤ 1000) (hb : 1 ≤ b ∧ b ≤ 1000000000039) : 1 ≤ s * b ∧ s * b ≤ 1000000000039000 := by
  have h0 : 0 ≤ b := by omega
  have h1 : s * b ≤ 1000 * b := Int.mul_le_mul_of_nonneg_right hs.2 h0
  have h2 : 1 * b ≤ s * b := Int.mul_le_mul_of_nonneg_right hs.1 h0
  omega
theorem four_mem {n k : Int} : cellAt [0, n, -1, n + 1] (k / 28 % 4) ∈ [0, n, -1, n + 1] := cellAt_mem (by omega) (by show _ < ((4 : Nat) : Int); omega)
theorem xB_bd {c s b : Int} (hs : 1 ≤ s ∧ s ≤ 1000) (hb : 1 ≤ b ∧ b ≤ 1000000000039) : -1 ≤ xB c s b ∧ xB c s b ≤ s * b + 1 := by
  have h := sb_bd hs hb
  unfold xB
  split
  · have := four_mem (n := s * b) (k := c)
    simp at this
    omega
  · generalize s * b = n at h ⊢
    have := Int.emod_nonneg (c * 6364136223846793005 % 2305843009213693951) (b := n + 3) (by omega)
    have := Int.emod_lt_of_pos (c * 6364136223846793005 % 2305843009213693951) (b := n + 3) (by omega)
    omega
theorem yB_bd {c o s b : Int} (hs : 1 ≤ s ∧ s ≤ 1000) (hb : 1 ≤ b ∧ b ≤ 1000000000039) : -1 ≤ yB c o s b ∧ yB c o s b ≤ s * b + 1 := by
  have h := sb_bd hs hb
  unfold yB
  split
  · have := four_mem (n := s * b) (k := c)
    simp at this
    omega
  · generalize s * b = n at h ⊢
    have := Int.emod_nonneg (o * 2862933555777941757 % 2305843009213693951) (b := n + 3) (by omega)
    have := Int.emod_lt_of_pos (o * 2862933555777941757 % 2305843009213693951) (b := n + 3) (by omega)
    omega
theorem spotB_lw {c o s : Int} (hs : 1 ≤ s ∧ s ≤ 1000) : Bz 60 (spotB c o s) := by
  have hb := byB_bd c
  have h := sb_bd hs hb
  have h1 := xB_bd (c := c) hs hb
  have h2 := yB_bd (c := c) (o := o) hs hb
  refine spotOf_lw (by omega) ?_ ?_ ?_ <;> (unfold Lw; omega)
theorem spotB_pos (c o s : Int) : 0 < (spotB c o s).2.2 := spotOf_pos (by have := byB_bd c; omega)
/-- with the divisor above nought -/
theorem spotOf_p {x y b : Int} (hb : 0 < b) : spotOf x y b = (x.fdiv (gcdN x.natAbs (gcdN y.natAbs b)), y.fdiv (gcdN x.natAbs (gcdN y.natAbs b)), b.fdiv (gcdN x.natAbs (gcdN y.natAbs b))) := by
  have e : (b.natAbs : Int) = b := by omega
  have hn : ¬ b < 0 := by omega
  unfold spotOf
  simp only [hn, if_false, e]
theorem spot_part' {x y b : Int} (hb : 0 < b) (hl : b.natAbs < 2 ^ 8000) (z : Int) : CDivA z (gcdN x.natAbs (gcdN y.natAbs b)) := by
  have h := spot_part (x := x) (y := y) (b := b) (by omega) hl
  have e : (b.natAbs : Int) = b := by omega
  rw [e] at h
  exact h
end LL
namespace LL
open PySem L2 PD
/-! ### loops and lists over plain things -/
theorem loop_allB {α : Type} {body : List Sl → Out → Prop} {P : List Sl → Prop} {j : Nat} {env : List Sl} {r : Vr} (g : α → D) (p : α → Bool) (hP : P env) : ∀ xs : List α, (∀ x, x ∈ xs → body (env.set j (.v (g x))) (if p x = true then .nx env else .rt r)) → Loop body P j (xs.map g) env (if xs.all p = true then .nx env else .rt r)
  | [], _ => by
    show Loop body P j [] env (.nx env)
    exact .nil
  | x :: xs, h => by
    have h1 := h x List.mem_cons_self
    rw [List.map_cons, List.all_cons]
    by_cases hx : p x = true
    · rw [if_pos hx] at h1
      rw [hx, Bool.true_and]
      exact .nx h1 hP (loop_allB g p hP xs fun y hy => h y (List.mem_cons_of_mem _ hy))
    · rw [if_neg hx] at h1
      have hx' : p x = false := by simpa using hx
      rw [hx', Bool.false_and, if_neg (by decide)]
      exact .rt h1
theorem loop_allT {α : Type} {body : List Sl → Out → Prop} {P : List Sl → Prop} {j : Nat} {env : List Sl} (g : α → D) (p : α → Bool) (hP : P env) {xs : List α} (ha : xs.all p = true) (h : ∀ x, x ∈ xs → p x = true → body (env.set j (.v (g x))) (.nx env)) : Loop body P j (xs.map g) env (.nx env) := by
  refine loop_all hP _ fun d hd => ?_
  obtain ⟨x, hx, rfl⟩ := List.mem_map.mp hd
  exact h x hx (List.all_eq_true.mp ha x hx)
theorem loop_allF {α : Type} {body : List Sl → Out → Prop} {P : List Sl → Prop} {j : Nat} {env : List Sl} {r : Vr} (g : α → D) (p : α → Bool) (hP : P env) {xs : List α} (ha : xs.all p = false) (h : ∀ x, x ∈ xs → p x = true → body (env.set j (.v (g x))) (.nx env)) (h2 : ∀ x, x ∈ xs → p x = false → body (env.set j (.v (g x))) (.rt r)) : Loop body P j (xs.map g) env (.rt r) := by
  have k := loop_allB (body := body) (P := P) (j := j) (env := env) (r := r) g p hP xs fun x hx => by
    by_cases hp : p x = true
    · rw [if_pos hp]
      exact h x hx hp
    · rw [if_neg hp]
      exact h2 x hx (by simpa using hp)
  rw [ha, if_neg (by decide)] at k
  exact k
theorem comp_map {α : Type} {test : List Sl → Bool → Prop} {elt : List Sl → D → Prop} {env : List Sl} {i : Nat} (g h : α → D) : ∀ xs : List α, (∀ x, x ∈ xs → test (env.set i (.v (g x))) true ∧ elt (env.set i (.v (g x))) (h x)) → Comp test elt env i (xs.map g) (xs.map h)
  | [], _ => .nil
  | x :: xs, q => .yes (q x List.mem_cons_self).1 (q x List.mem_cons_self).2 (comp_map g h xs fun y hy => q y (List.mem_cons_of_mem _ hy))
theorem comp_filter {α : Type} {test : List Sl → Bool → Prop} {elt : List Sl → D → Prop} {env : List Sl} {i : Nat} (g h : α → D) (p : α → Bool) : ∀ xs : List α, (∀ x, x ∈ xs → test (env.set i (.v (g x))) (p x) ∧ (p x = true → elt (env.set i (.v (g x))) (h x))) → Comp test elt env i (xs.map g) ((xs.filter p).map h)
  | [], _ => .nil
  | x :: xs, q => by
    obtain ⟨q1, q2⟩ := q x List.mem_cons_self
    have r := comp_filter g h p xs fun y hy => q y (List.mem_cons_of_mem _ hy)
    rw [List.map_cons, List.filter_cons]
    by_cases hx : p x = true
    · rw [if_pos hx]
      rw [hx] at q1
      exact .yes q1 (q2 hx) r
    · rw [if_neg hx]
      have hx' : p x = false := by simpa using hx
      rw [hx'] at q1
      exact .no q1 r
theorem cutA_map {α β : Type} (f : α → β) (xs : List α) (lo hi : Option Int) : cutA (xs.map f) lo hi = (cutA xs lo hi).map f := by
  unfold cutA
  rw [List.length_map, List.map_take, List.map_drop]
theorem cutA_lo {α : Type} (xs : List α) {k : Int} (h0 : 0 ≤ k) : cutA xs (some k) none = xs.drop k.toNat := by
  unfold cutA HT.sIx
  simp only
  rw [if_neg (by omega)]
  by_cases h : k.toNat ≤ xs.length
  · rw [Nat.min_eq_left h, List.take_of_length_le (by simp)]
  · rw [Nat.min_eq_right (by omega), List.drop_eq_nil_of_le (Nat.le_refl _), List.drop_eq_nil_of_le (by omega)]
    simp
theorem cutA_hi {α : Type} (xs : List α) {k : Int} (h0 : 0 ≤ k) : cutA xs none (some k) = xs.take k.toNat := by
  unfold cutA HT.sIx
  simp only
  rw [if_neg (by omega), Nat.sub_zero, List.drop_zero]
  by_cases h : k.toNat ≤ xs.length
  · rw [Nat.min_eq_left h]
  · rw [Nat.min_eq_right (by omega), List.take_of_length_le (Nat.le_refl _), List.take_of_length_le (by omega)]
theorem atI_mapD {α : Type} {f : α → PyData} {xs : List α} {k : Int} (z : α) (h0 : 0 ≤ k) (h1 : k < xs.length) : atI (xs.map f) k = some (f (xs.getD k.toNat z)) := by
  have hk : k.toNat < xs.length := by omega
  refine atI_map h0 ?_
  rw [List.getD_eq_getElem?_getD, List.getElem?_eq_getElem hk]
  rfl
theorem getD_mem {α : Type} {xs : List α} {n : Nat} {z : α} (h : n < xs.length) : xs.getD n z ∈ xs := by
  rw [List.getD_eq_getElem?_getD, List.getElem?_eq_getElem h]
  exact List.getElem_mem h
/-! ### rows -/
def rowsZ (n : Int) (fs : List Z3) : List Z3 := fs ++ edgesZ n
def keepsZ (rows : List Z3) (s : Z3) : Bool := rows.all fun f => decide (reachZ f s ≤ 0)
theorem edges_ok {n : Int} (h : sizeChk (.int n) = true) : ∀ f, f ∈ edgesZ n → okF f = true := by
  have h' : 1 ≤ n ∧ n ≤ 1000 := by simpa [sizeChk] using h
  intro f hf
  unfold edgesZ at hf
  simp at hf
  rcases hf with rfl | rfl | rfl | rfl <;> (unfold okF; simp; try omega)
theorem rows_ok {n : Int} {fs : List Z3} (h : sizeChk (.int n) = true) (hf : ∀ f, f ∈ fs → okF f = true) : ∀ f, f ∈ rowsZ n fs → okF f = true := by
  intro f hm
  rcases List.mem_append.mp hm with z | z
  · exact hf f z
  · exact edges_ok h f z
theorem rows_len {n : Int} {fs : List Z3} : (rowsZ n fs).length = fs.length + 4 := by simp [rowsZ, edgesZ]
/-- with what with_edges ends where a thing is none -/
def weErr (d : PyData) (ds : List PyData) : Option Ee := if sizeChk d = false then some .size else if 16 < ds.length then some .many else if ds.all fenceChk = false then some .fence else none
/-- with_edges' results -/
def weG (c : Ee → Addr) (r : Rs) (d : PyData) (ds : List PyData) : Prop :=
  (∃ n fs, d = .int n ∧ ds = fs.map d3 ∧ sizeChk d = true ∧ fs.length ≤ 16 ∧ (∀ f, f ∈ fs → okF f = true) ∧ r = .fr ((rowsZ n fs).map d3)) ∨ (∃ e, weErr d ds = some e ∧ r = .er (c e))
theorem first_not (p : PyData → Bool) : ∀ ds : List PyData, ds.all p = false → ∃ ds1 d0 ds2, ds = ds1 ++ d0 :: ds2 ∧ (∀ d, d ∈ ds1 → p d = true) ∧ p d0 = false
  | [], h => by cases h
  | d :: r, h => by
    by_cases hd : p d = true
    · rw [List.all_cons, hd, Bool.true_and] at h
      obtain ⟨ds1, d0, ds2, e, h1, h2⟩ := first_not p r h
      refine ⟨d :: ds1, d0, ds2, by rw [e]; rfl, fun x hx => ?_, h2⟩
      rcases List.mem_cons.mp hx with rfl | hx
      · exact hd
      · exact h1 x hx
    · exact ⟨[], d, r, rfl, fun _ hx => absurd hx (by simp), by simpa using hd⟩
theorem all_chk {fs : List Z3} (h : ∀ f, f ∈ fs → okF f = true) : ∀ d, d ∈ fs.map d3 → fenceChk d = true := by
  intro d hd
  obtain ⟨f, hf, rfl⟩ := List.mem_map.mp hd
  exact h f hf
/-! ### the fences that the laws draw -/
def manyB (ns : List Int) (few : Int) : Int := if cellAt ns 1 / 6 % 8 = 1 then 16 else cellAt ns 1 / 48 % (few + 1)
def baseB (ns : List Int) (first few s : Int) : List Z3 := (cutA ns (some first) (some (first + manyB ns few))).map fun n => fenceB n s
def menuL (o : Z3) : List Z3 := [(0 - o.1, 0 - o.2.1, 0 - o.2.2), o, (0 - o.1, 0 - o.2.1, max (-1000000) (0 - o.2.2 - 1))]
def fencesB (ns : List Int) (first few s : Int) : List Z3 :=
  if 1 < (baseB ns first few s).length ∧ cellAt ns 1 % 6 < 3 then (baseB ns first few s).set ((baseB ns first few s).length - 1) ((menuL ((baseB ns first few s).getD 0 (0, 0, 0))).getD (cellAt ns 1 % 6).toNat (0, 0, 0)) else baseB ns first few s
theorem manyB_bd {ns : List Int} {few : Int} (h : 0 ≤ few ∧ few ≤ 16) : 0 ≤ manyB ns few ∧ manyB ns few ≤ 16 := by
  unfold manyB
  split
  · omega
  · have := Int.emod_nonneg (cellAt ns 1 / 48) (b := few + 1) (by omega)
    have := Int.emod_lt_of_pos (cellAt ns 1 / 48) (b := few + 1) (by omega)
    omega
theorem baseB_len {ns : List Int} {first few s : Int} (h : 0 ≤ few ∧ few ≤ 16) (h0 : 0 ≤ first) : (baseB ns first few s).length ≤ 16 := by
  have hm := manyB_bd (ns := ns) h
  unfold baseB cutA HT.sIx
  simp only [List.length_map, List.length_take, List.length_drop]
  rw [if_neg (by omega), if_neg (by omega)]
  omega
theorem baseB_ok (ns : List Int) (first few s : Int) : ∀ f, f ∈ baseB ns first few s → okF f = true := by
  intro f hf
  obtain ⟨n, _, rfl⟩ := List.mem_map.mp hf
  exact fenceB_ok n s
theorem menuL_ok {o : Z3} (h : okF o = true) : ∀ f, f ∈ menuL o → okF f = true := by
  obtain ⟨h1, h2, h3, h4⟩ := okF_bd h
  intro f hf
  unfold menuL at hf
  simp only [List.mem_cons, List.not_mem_nil, or_false] at hf
  rcases hf with rfl | rfl | rfl
  · unfold okF
    simp
    omega
  · exact h
  · unfold okF
    simp
    omega
theorem fencesB_len {ns : List Int} {first few s : Int} (h : 0 ≤ few ∧ few ≤ 16) (h0 : 0 ≤ first) : (fencesB ns first few s).length ≤ 16 := by
  have := baseB_len (ns := ns) (s := s) h h0
  unfold fencesB
  split
  · rw [List.length_set]
    exact this
  · exact this
theorem fencesB_ok (ns : List Int) (first few s : Int) : ∀ f, f ∈ fencesB ns first few s → okF f = true := by
  intro f hf
  unfold fencesB at hf
  split at hf
  · rename_i hc
    rcases List.mem_or_eq_of_mem_set hf with z | z
    · exact baseB_ok _ _ _ _ f z
    · rw [z]
      refine menuL_ok (o := (baseB ns first few s).getD 0 (0, 0, 0)) (baseB_ok _ _ _ _ _ (getD_mem (by omega))) _ (getD_mem ?_)
      show _ < 3
      omega
  · exact baseB_ok _ _ _ _ f hf
end LL
namespace LL
open PySem L2 PD
/-- a fold whose invariant counts the turns -/
theorem loop_foldI {α β : Type} {body : List Sl → Out → Prop} {P : List Sl → Prop} {j : Nat} (mk : β → List Sl) (g : α → D) (step : β → α → β) (I : Nat → β → Prop) (N : Nat) (hP : ∀ s, P (mk s)) : ∀ (xs : List α) (n : Nat) (s : β), n + xs.length ≤ N → I n s → (∀ i s x, x ∈ xs → i < N → I i s → body ((mk s).set j (.v (g x))) (.nx (mk (step s x))) ∧ I (i + 1) (step s x)) →
    Loop body P j (xs.map g) (mk s) (.nx (mk (xs.foldl step s))) ∧ I (n + xs.length) (xs.foldl step s)
  | [], n, s, _, hs, _ => ⟨.nil, hs⟩
  | x :: r, n, s, hn, hs, h => by
    rw [List.length_cons] at hn
    obtain ⟨h1, h2⟩ := h n s x List.mem_cons_self (by omega) hs
    obtain ⟨h3, h4⟩ := loop_foldI mk g step I N hP r (n + 1) (step s x) (by omega) h2 fun i s' x' hx hs' => h i s' x' (List.mem_cons_of_mem _ hx) hs'
    refine ⟨.nx h1 (hP _) h3, ?_⟩
    rw [List.length_cons, Nat.add_comm r.length 1, ← Nat.add_assoc]
    exact h4
theorem loop_foldJ {α β : Type} {body : List Sl → Out → Prop} {P : List Sl → Prop} {j : Nat} (mk : β → List Sl) (g : α → D) (step : β → α → β) (I : Nat → β → Prop) (N : Nat) (hP : ∀ s, P (mk s)) (xs : List α) (n : Nat) (s : β) (hn : n + xs.length ≤ N) (hs : I n s) (h : ∀ i s x, x ∈ xs → i < N → I i s → body ((mk s).set j (.v (g x))) (.nx (mk (step s x))) ∧ I (i + 1) (step s x)) :
    Loop body P j (xs.map g) (mk s) (.nx (mk (xs.foldl step s))) := (loop_foldI mk g step I N hP xs n s hn hs h).1
theorem fold_inv {α β : Type} (step : β → α → β) (I : Nat → β → Prop) (N : Nat) : ∀ (xs : List α) (n : Nat) (s : β), n + xs.length ≤ N → I n s → (∀ i s x, x ∈ xs → i < N → I i s → I (i + 1) (step s x)) → I (n + xs.length) (xs.foldl step s)
  | [], n, s, _, hs, _ => hs
  | x :: r, n, s, hn, hs, h => by
    rw [List.length_cons] at hn
    have h4 := fold_inv step I N r (n + 1) (step s x) (by omega) (h n s x List.mem_cons_self (by omega) hs) fun i s' x' hx hs' => h i s' x' (List.mem_cons_of_mem _ hx) hs'
    rw [List.length_cons, Nat.add_comm r.length 1, ← Nat.add_assoc]
    exact h4
/-- a loop that keeps what it has gone through -/
theorem loop_acc {α : Type} {body : List Sl → Out → Prop} {P : List Sl → Prop} {j : Nat} (mk : List α → List Sl) (g : α → D) (hP : ∀ s, P (mk s)) {all : List α} (h : ∀ done x rest, all = done ++ x :: rest → body ((mk done).set j (.v (g x))) (.nx (mk (done ++ [x])))) : ∀ rest done, all = done ++ rest → Loop body P j (rest.map g) (mk done) (.nx (mk all))
  | [], done, e => by
    rw [List.append_nil] at e
    rw [e]
    exact .nil
  | x :: r, done, e => .nx (h done x r e) (hP _) (loop_acc mk g hP h r (done ++ [x]) (by rw [e]; simp))
/-- a while loop that goes on as long as p holds of the next -/
theorem take_loop {α : Type} {test : List Sl → Bool → Prop} {body : List Sl → Out → Prop} (p : α → Bool) (xs : List α) (mk : Nat → List Sl) (hT : ∀ k x, xs[k]? = some x → test (mk k) (p x)) (hE : test (mk xs.length) false) (hB : ∀ k, k < xs.length → body (mk k) (.nx (mk (k + 1)))) :
    ∀ (n k : Nat), k + n = xs.length → WLoop test body n (mk k) (.nx (mk (k + ((xs.drop k).takeWhile p).length)))
  | 0, k, e => by
    have hk : k = xs.length := by omega
    subst hk
    rw [List.drop_length]
    exact .stop hE
  | n + 1, k, e => by
    have hk : k < xs.length := by omega
    have hg : xs[k]? = some xs[k] := List.getElem?_eq_getElem hk
    have ht := hT k _ hg
    rw [List.drop_eq_getElem_cons hk, List.takeWhile_cons]
    by_cases hp : p xs[k] = true
    · rw [if_pos hp]
      rw [hp] at ht
      have := take_loop p xs mk hT hE hB n (k + 1) (by omega)
      have e2 : k + (xs[k] :: (xs.drop (k + 1)).takeWhile p).length = k + 1 + ((xs.drop (k + 1)).takeWhile p).length := by
        rw [List.length_cons]
        omega
      rw [e2]
      exact .nx ht (hB k hk) this
    · rw [if_neg hp]
      have hp' : p xs[k] = false := by simpa using hp
      rw [hp'] at ht
      exact .stop ht
theorem take_loop0 {α : Type} {test : List Sl → Bool → Prop} {body : List Sl → Out → Prop} {env env1 : List Sl} (p : α → Bool) (xs : List α) (mk : Nat → List Sl) (h0 : env = mk 0) (h1 : env1 = mk (xs.takeWhile p).length) (hT : ∀ k x, xs[k]? = some x → test (mk k) (p x)) (hE : test (mk xs.length) false) (hB : ∀ k, k < xs.length → body (mk k) (.nx (mk (k + 1)))) :
    ∃ n, WLoop test body n env (.nx env1) := by
  have h := take_loop p xs mk hT hE hB xs.length 0 (by omega)
  rw [Nat.zero_add, List.drop_zero] at h
  rw [h0, h1]
  exact ⟨_, h⟩
/-! ### meetings -/
def z3l (z : Z3) : List Int := [z.1, z.2.1, z.2.2]
theorem z3l_inj {a b : Z3} (h : z3l a = z3l b) : a = b := by
  obtain ⟨x, y, z⟩ := a
  obtain ⟨x', y', z'⟩ := b
  simp [z3l] at h
  obtain ⟨rfl, rfl, rfl⟩ := h
  rfl
theorem z3l_mem {z : Z3} {zs : List Z3} : z3l z ∈ zs.map z3l ↔ z ∈ zs := by
  constructor
  · intro h
    obtain ⟨y, hy, e⟩ := List.mem_map.mp h
    rw [← z3l_inj e]
    exact hy
  · exact fun h => List.mem_map.mpr ⟨z, h, rfl⟩
theorem z3l_d3 (zs : List Z3) : ((zs.map z3l).map fun k => PyData.tuple (k.map .int)) = zs.map d3 := by
  rw [List.map_map]
  rfl
def meetStep (rows found : List Z3) (o p : Z3) : List Z3 := if crossZ o p ≠ 0 ∧ meetZ o p ∉ found ∧ keepsZ rows (meetZ o p) = true then found ++ [meetZ o p] else found
def meetRow (rows found : List Z3) (k : Nat) : List Z3 := (rows.drop (k + 1)).foldl (fun fs p => meetStep rows fs (rows.getD k (0, 0, 0)) p) found
def meetingsZ (rows : List Z3) : List Z3 := (List.range rows.length).foldl (meetRow rows) []
/-! ### the order -/
def lowerZ (a b : Z3) : Bool := if a.2.1 * b.2.2 - b.2.1 * a.2.2 ≠ 0 then decide (a.2.1 * b.2.2 - b.2.1 * a.2.2 < 0) else decide (a.1 * b.2.2 < b.1 * a.2.2)
def lowStep (f s : Z3) : Z3 := if lowerZ s f = true then s else f
def firstZ (zs : List Z3) : Z3 := zs.foldl lowStep (zs.getD 0 (0, 0, 0))
def insAt (first : Z3) (found : List Z3) (s : Z3) : Nat := (found.takeWhile fun q => decide (0 < turnZ first q s)).length
def insStep (first : Z3) (found : List Z3) (s : Z3) : List Z3 := if s = first then found else found.take (insAt first found s) ++ s :: found.drop (insAt first found s)
def orderZ (zs : List Z3) : List Z3 := firstZ zs :: zs.foldl (insStep (firstZ zs)) []
def cornersZ (rows : List Z3) : List Z3 := if meetingsZ rows = [] then [] else orderZ (meetingsZ rows)
/-! ### what the meetings are -/
theorem meetStep_mem {rows found : List Z3} {o p z : Z3} : z ∈ meetStep rows found o p ↔ z ∈ found ∨ (crossZ o p ≠ 0 ∧ keepsZ rows (meetZ o p) = true ∧ z = meetZ o p) := by
  unfold meetStep
  by_cases h : crossZ o p ≠ 0 ∧ meetZ o p ∉ found ∧ keepsZ rows (meetZ o p) = true
  · rw [if_pos h, List.mem_append, List.mem_singleton]
    constructor
    · rintro (q | q)
      · exact .inl q
      · exact .inr ⟨h.1, h.2.2, q⟩
    · rintro (q | q)
      · exact .inl q
      · exact .inr q.2.2
  · rw [if_neg h]
    constructor
    · exact .inl
    · rintro (q | ⟨q1, q2, q3⟩)
      · exact q
      · by_cases hm : meetZ o p ∈ found
        · rw [q3]
          exact hm
        · exact absurd ⟨q1, hm, q2⟩ h
theorem meetStep_nodup {rows found : List Z3} {o p : Z3} (h : found.Nodup) : (meetStep rows found o p).Nodup := by
  unfold meetStep
  split
  · rename_i q
    rw [List.nodup_append]
    refine ⟨h, by simp, fun a ha b hb e => ?_⟩
    rw [List.mem_singleton] at hb
    rw [e, hb] at ha
    exact q.2.1 ha
  · exact h
theorem meetStep_len {rows found : List Z3} {o p : Z3} : (meetStep rows found o p).length ≤ found.length + 1 := by
  unfold meetStep
  split
  · simp
  · omega
theorem foldl_mem {α β : Type} {f : List β → α → List β} {Q : α → β → Prop} (h : ∀ s x z, z ∈ f s x ↔ z ∈ s ∨ Q x z) : ∀ (xs : List α) (s : List β) (z : β), z ∈ xs.foldl f s ↔ z ∈ s ∨ ∃ x, x ∈ xs ∧ Q x z
  | [], s, z => by simp
  | x :: r, s, z => by
    rw [List.foldl_cons, foldl_mem h r, h]
    constructor
    · rintro ((q | q) | ⟨y, hy, q⟩)
      · exact .inl q
      · exact .inr ⟨x, List.mem_cons_self, q⟩
      · exact .inr ⟨y, List.mem_cons_of_mem _ hy, q⟩
    · rintro (q | ⟨y, hy, q⟩)
      · exact .inl (.inl q)
      · rcases List.mem_cons.mp hy with rfl | hy
        · exact .inl (.inr q)
        · exact .inr ⟨y, hy, q⟩
theorem foldl_inv {α β : Type} {f : β → α → β} {I : β → Prop} (h : ∀ s x, I s → I (f s x)) : ∀ (xs : List α) (s : β), I s → I (xs.foldl f s)
  | [], _, hs => hs
  | x :: r, s, hs => foldl_inv h r (f s x) (h s x hs)
theorem meetRow_mem {rows found : List Z3} {k : Nat} {z : Z3} : z ∈ meetRow rows found k ↔ z ∈ found ∨ ∃ p, p ∈ rows.drop (k + 1) ∧ crossZ (rows.getD k (0, 0, 0)) p ≠ 0 ∧ keepsZ rows (meetZ (rows.getD k (0, 0, 0)) p) = true ∧ z = meetZ (rows.getD k (0, 0, 0)) p :=
  foldl_mem (f := fun fs p => meetStep rows fs (rows.getD k (0, 0, 0)) p) (Q := fun p z => crossZ (rows.getD k (0, 0, 0)) p ≠ 0 ∧ keepsZ rows (meetZ (rows.getD k (0, 0, 0)) p) = true ∧ z = meetZ (rows.getD k (0, 0, 0)) p) (fun _ _ _ => meetStep_mem) _ _ _
theorem meetings_mem' {rows : List Z3} {z : Z3} : z ∈ meetingsZ rows ↔ ∃ k, k < rows.length ∧ ∃ p, p ∈ rows.drop (k + 1) ∧ crossZ (rows.getD k (0, 0, 0)) p ≠ 0 ∧ keepsZ rows (meetZ (rows.getD k (0, 0, 0)) p) = true ∧ z = meetZ (rows.getD k (0, 0, 0)) p := by
  unfold meetingsZ
  rw [foldl_mem (f := meetRow rows) (Q := fun k z => ∃ p, p ∈ rows.drop (k + 1) ∧ crossZ (rows.getD k (0, 0, 0)) p ≠ 0 ∧ keepsZ rows (meetZ (rows.getD k (0, 0, 0)) p) = true ∧ z = meetZ (rows.getD k (0, 0, 0)) p) (fun _ _ _ => meetRow_mem)]
  simp
theorem meetings_nodup (rows : List Z3) : (meetingsZ rows).Nodup :=
  foldl_inv (f := meetRow rows) (I := fun s => s.Nodup) (fun s k hs => foldl_inv (f := fun fs p => meetStep rows fs (rows.getD k (0, 0, 0)) p) (I := fun s => s.Nodup) (fun _ _ h => meetStep_nodup h) _ _ hs) _ _ List.nodup_nil
/-- the meeting is the same from either side -/
theorem spotOf_neg {x y b : Int} (hb : b ≠ 0) : spotOf (-x) (-y) (-b) = spotOf x y b := by
  have f : ∀ (z q : Int), (-z).fdiv (-q) = z.fdiv q := fun z q => Int.neg_fdiv_neg ..
  unfold spotOf
  simp only [Int.natAbs_neg]
  generalize gcdN x.natAbs (gcdN y.natAbs b.natAbs) = g
  by_cases h : b < 0
  · have h2 : ¬ (-b < 0) := by omega
    simp only [h, h2, if_true, if_false]
    rw [← f x, ← f y, ← f b, Int.neg_neg]
  · have h2 : -b < 0 := by omega
    simp only [h, h2, if_true, if_false]
    rw [f, f, f]
theorem cross_neg {o p : Z3} : crossZ p o = -crossZ o p := by
  unfold crossZ
  grind
theorem meet_comm {o p : Z3} (h : crossZ o p ≠ 0) : meetZ p o = meetZ o p := by
  unfold meetZ
  rw [cross_neg, ← spotOf_neg h]
  congr 1 <;> grind
/-- the pairs, whichever comes first -/
theorem meetings_mem {rows : List Z3} {z : Z3} : z ∈ meetingsZ rows ↔ ∃ o p, o ∈ rows ∧ p ∈ rows ∧ crossZ o p ≠ 0 ∧ keepsZ rows z = true ∧ z = meetZ o p := by
  rw [meetings_mem']
  constructor
  · rintro ⟨k, hk, p, hp, h1, h2, rfl⟩
    exact ⟨_, p, getD_mem hk, List.mem_of_mem_drop hp, h1, h2, rfl⟩
  · rintro ⟨o, p, ho, hp, h1, h2, rfl⟩
    obtain ⟨i, hi, rfl⟩ := List.mem_iff_getElem.mp ho
    obtain ⟨j, hj, rfl⟩ := List.mem_iff_getElem.mp hp
    have gd : ∀ (n : Nat) (hn : n < rows.length), rows.getD n (0, 0, 0) = rows[n] := fun n hn => by
      rw [List.getD_eq_getElem?_getD, List.getElem?_eq_getElem hn]
      rfl
    rcases Nat.lt_trichotomy i j with h | h | h
    · refine ⟨i, hi, rows[j], ?_, ?_, ?_, ?_⟩
      · refine List.mem_iff_getElem.mpr ⟨j - (i + 1), by simp; omega, ?_⟩
        rw [List.getElem_drop]
        congr 1
        omega
      · rw [gd i hi]
        exact h1
      · rw [gd i hi]
        exact h2
      · rw [gd i hi]
    · subst h
      exact absurd (by unfold crossZ; grind) h1
    · have h1' : crossZ rows[j] rows[i] ≠ 0 := by
        rw [cross_neg]
        omega
      refine ⟨j, hj, rows[i], ?_, ?_, ?_, ?_⟩
      · refine List.mem_iff_getElem.mpr ⟨i - (j + 1), by simp; omega, ?_⟩
        rw [List.getElem_drop]
        congr 1
        omega
      · rw [gd j hj]
        exact h1'
      · rw [gd j hj, meet_comm h1]
        exact h2
      · rw [gd j hj, meet_comm h1]
/-! ### the order keeps the spots -/
theorem lowStep_mem {zs : List Z3} {a b : Z3} (ha : a ∈ zs) (hb : b ∈ zs) : lowStep a b ∈ zs := by
  unfold lowStep
  split
  · exact hb
  · exact ha
theorem foldl_memI {α : Type} {f : α → α → α} {Q : α → Prop} (h : ∀ s x, Q s → Q x → Q (f s x)) : ∀ (xs : List α) (s : α), Q s → (∀ x, x ∈ xs → Q x) → Q (xs.foldl f s)
  | [], _, hs, _ => hs
  | x :: r, s, hs, hx => foldl_memI h r (f s x) (h s x hs (hx x List.mem_cons_self)) fun y hy => hx y (List.mem_cons_of_mem _ hy)
theorem firstZ_mem {zs : List Z3} (h : zs ≠ []) : firstZ zs ∈ zs := by
  cases zs with
  | nil => exact absurd rfl h
  | cons z r =>
    exact foldl_memI (f := lowStep) (Q := fun x => x ∈ z :: r) (fun s x hs hx => lowStep_mem hs hx) _ _ (by simp) (fun _ hx => hx)
theorem insStep_perm {first s : Z3} {found : List Z3} (h : s ≠ first) : (insStep first found s).Perm (s :: found) := by
  unfold insStep
  rw [if_neg h]
  refine List.perm_middle.trans ?_
  rw [List.take_append_drop]
theorem ins_perm {first : Z3} : ∀ (zs found : List Z3), (zs.foldl (insStep first) found).Perm (zs.filter (fun z => decide (z ≠ first)) ++ found)
  | [], found => List.Perm.refl _
  | z :: r, found => by
    rw [List.foldl_cons]
    refine (ins_perm r _).trans ?_
    by_cases h : z = first
    · have e : insStep first found z = found := by
        unfold insStep
        rw [if_pos h]
      rw [e, List.filter_cons_of_neg (by simpa using h)]
    · rw [List.filter_cons_of_pos (by simpa using h)]
      refine (List.Perm.append_left _ (insStep_perm h)).trans ?_
      exact List.perm_middle
theorem ins_len {first : Z3} (zs : List Z3) : (zs.foldl (insStep first) []).length ≤ zs.length := by
  rw [(ins_perm zs []).length_eq, List.append_nil]
  exact List.length_filter_le _ _
theorem filter_perm {first : Z3} : ∀ {zs : List Z3}, zs.Nodup → first ∈ zs → (first :: zs.filter (fun z => decide (z ≠ first))).Perm zs
  | [], _, h => absurd h (by simp)
  | z :: r, hn, h => by
    rw [List.nodup_cons] at hn
    by_cases hz : z = first
    · subst hz
      rw [List.filter_cons_of_neg (by simp)]
      have e : r.filter (fun y => decide (y ≠ z)) = r := by
        rw [List.filter_eq_self]
        intro y hy
        have : y ≠ z := fun e => hn.1 (e ▸ hy)
        simpa using this
      rw [e]
    · rw [List.filter_cons_of_pos (by simpa using hz)]
      rcases List.mem_cons.mp h with e | hr
      · exact absurd e.symm hz
      · exact (List.Perm.swap _ _ _).trans ((filter_perm hn.2 hr).cons z)
theorem order_perm {zs : List Z3} (hn : zs.Nodup) (h : zs ≠ []) : (orderZ zs).Perm zs := by
  unfold orderZ
  refine List.Perm.trans (List.Perm.cons _ (ins_perm zs [])) ?_
  rw [List.append_nil]
  exact filter_perm hn (firstZ_mem h)
theorem corners_perm (rows : List Z3) : (cornersZ rows).Perm (meetingsZ rows) := by
  unfold cornersZ
  split
  · rename_i h
    rw [h]
  · rename_i h
    exact order_perm (meetings_nodup rows) h
theorem corners_mem {rows : List Z3} {z : Z3} : z ∈ cornersZ rows ↔ ∃ o p, o ∈ rows ∧ p ∈ rows ∧ crossZ o p ≠ 0 ∧ keepsZ rows z = true ∧ z = meetZ o p := by
  rw [(corners_perm rows).mem_iff]
  exact meetings_mem
theorem corners_nodup (rows : List Z3) : (cornersZ rows).Nodup := (corners_perm rows).nodup_iff.mpr (meetings_nodup rows)
/-! ### bounds -/
theorem meetings_bz {rows : List Z3} (h : ∀ f, f ∈ rows → okF f = true) {z : Z3} (hz : z ∈ meetingsZ rows) : Bz 41 z := by
  obtain ⟨o, p, ho, hp, hx, _, rfl⟩ := meetings_mem.mp hz
  exact meet_lw (okF_lw (h o ho)) (okF_lw (h p hp)) hx
theorem corners_bz {rows : List Z3} (h : ∀ f, f ∈ rows → okF f = true) {z : Z3} (hz : z ∈ cornersZ rows) : Bz 41 z := meetings_bz h ((corners_perm rows).mem_iff.mp hz)
theorem meetRow_len {rows found : List Z3} {k : Nat} (hl : rows.length ≤ 20) : (meetRow rows found k).length ≤ found.length + 20 := by
  have h := fold_inv (fun fs p => meetStep rows fs (rows.getD k (0, 0, 0)) p) (fun i s => s.length ≤ found.length + i) 20 (rows.drop (k + 1)) 0 found (by simp; omega) (by simp) (fun i s x _ _ hs => by
    have := meetStep_len (rows := rows) (found := s) (o := rows.getD k (0, 0, 0)) (p := x)
    omega)
  simp only [List.length_drop] at h
  unfold meetRow
  omega
theorem meetings_len {rows : List Z3} (hl : rows.length ≤ 20) : (meetingsZ rows).length ≤ 400 := by
  have h := fold_inv (meetRow rows) (fun i s => s.length ≤ 20 * i) 20 (List.range rows.length) 0 [] (by simp; omega) (by simp) (fun i s x _ _ hs => by
    have := meetRow_len (found := s) (k := x) hl
    omega)
  rw [List.length_range] at h
  unfold meetingsZ
  omega
theorem corners_len {rows : List Z3} (hl : rows.length ≤ 20) : (cornersZ rows).length ≤ 400 := by
  rw [(corners_perm rows).length_eq]
  exact meetings_len hl
end LL
namespace LL
open PySem L2 PD
/-! ### good spots: equal where they stand for the same -/
theorem good_parts {z : Z3} (h : goodSpot z = true) : 0 < z.2.2 ∧ Nat.gcd z.1.natAbs (Nat.gcd z.2.1.natAbs z.2.2.natAbs) = 1 := by
  unfold goodSpot at h
  simp only [Bool.and_eq_true, decide_eq_true_eq] at h
  refine ⟨h.1, ?_⟩
  have h2 := h.2
  unfold gcdN at h2
  have e : ((z.2.2.natAbs : Nat) : Int) = z.2.2 := by omega
  rw [← e, Int.gcd_natCast_natCast, Int.gcd_natCast_natCast] at h2
  omega
theorem good_eq {a b : Z3} (ha : goodSpot a = true) (hb : goodSpot b = true) (h1 : a.1 * b.2.2 = b.1 * a.2.2) (h2 : a.2.1 * b.2.2 = b.2.1 * a.2.2) : a = b := by
  obtain ⟨pa, ga⟩ := good_parts ha
  obtain ⟨pb, gb⟩ := good_parts hb
  obtain ⟨x, y, w⟩ := a
  obtain ⟨x', y', w'⟩ := b
  simp only at *
  have k1 : w'.natAbs * Nat.gcd x.natAbs (Nat.gcd y.natAbs w.natAbs) = w.natAbs * Nat.gcd x'.natAbs (Nat.gcd y'.natAbs w'.natAbs) := by
    rw [← Nat.gcd_mul_left, ← Nat.gcd_mul_left, ← Nat.gcd_mul_left, ← Nat.gcd_mul_left]
    have e1 : w'.natAbs * x.natAbs = w.natAbs * x'.natAbs := by
      rw [← Int.natAbs_mul, ← Int.natAbs_mul, Int.mul_comm, h1, Int.mul_comm]
    have e2 : w'.natAbs * y.natAbs = w.natAbs * y'.natAbs := by
      rw [← Int.natAbs_mul, ← Int.natAbs_mul, Int.mul_comm, h2, Int.mul_comm]
    rw [e1, e2, Nat.mul_comm w'.natAbs w.natAbs]
  rw [ga, gb] at k1
  have ew : w = w' := by omega
  subst ew
  have hw : w ≠ 0 := by omega
  have ex : x = x' := Int.eq_of_mul_eq_mul_right hw h1
  have ey : y = y' := Int.eq_of_mul_eq_mul_right hw h2
  rw [ex, ey]
/-! ### corners -/
/-- a spot in lowest terms that all rows keep, with two tight rows that don't run the same way -/
def Cor (rows : List Z3) (z : Z3) : Prop := goodSpot z = true ∧ (∀ f, f ∈ rows → reachZ f z ≤ 0) ∧ ∃ o p, o ∈ rows ∧ p ∈ rows ∧ crossZ o p ≠ 0 ∧ reachZ o z = 0 ∧ reachZ p z = 0
theorem keeps_iff {rows : List Z3} {z : Z3} : keepsZ rows z = true ↔ ∀ f, f ∈ rows → reachZ f z ≤ 0 := by
  unfold keepsZ
  rw [List.all_eq_true]
  constructor
  · intro h f hf
    simpa using h f hf
  · intro h f hf
    simpa using h f hf
/-- the spot in which two lines meet is one -/
theorem tight_eq {o p a b : Z3} (hx : crossZ o p ≠ 0) (ha : goodSpot a = true) (hb : goodSpot b = true) (a1 : reachZ o a = 0) (a2 : reachZ p a = 0) (b1 : reachZ o b = 0) (b2 : reachZ p b = 0) : a = b := by
  unfold crossZ at hx
  unfold reachZ at a1 a2 b1 b2
  refine good_eq ha hb ?_ ?_
  · have : (o.1 * p.2.1 - o.2.1 * p.1) * (a.1 * b.2.2 - b.1 * a.2.2) = 0 := by grind
    rcases Int.mul_eq_zero.mp this with q | q
    · exact absurd q hx
    · omega
  · have : (o.1 * p.2.1 - o.2.1 * p.1) * (a.2.1 * b.2.2 - b.2.1 * a.2.2) = 0 := by grind
    rcases Int.mul_eq_zero.mp this with q | q
    · exact absurd q hx
    · omega
theorem cor_iff {rows : List Z3} {z : Z3} : z ∈ cornersZ rows ↔ Cor rows z := by
  rw [corners_mem]
  constructor
  · rintro ⟨o, p, ho, hp, hx, hk, rfl⟩
    obtain ⟨h1, h2⟩ := meet_on hx
    exact ⟨spotOf_good hx, keeps_iff.mp hk, o, p, ho, hp, hx, h1, h2⟩
  · rintro ⟨hg, hk, o, p, ho, hp, hx, h1, h2⟩
    obtain ⟨h3, h4⟩ := meet_on hx
    have e : z = meetZ o p := tight_eq hx hg (spotOf_good hx) h1 h2 h3 h4
    exact ⟨o, p, ho, hp, hx, keeps_iff.mpr hk, e⟩
theorem reach_lin {f a b e z : Z3} {k i j l : Int} (h1 : k * z.1 = i * a.1 + j * b.1 + l * e.1) (h2 : k * z.2.1 = i * a.2.1 + j * b.2.1 + l * e.2.1) (h3 : k * z.2.2 = i * a.2.2 + j * b.2.2 + l * e.2.2) : k * reachZ f z = i * reachZ f a + j * reachZ f b + l * reachZ f e := by
  unfold reachZ
  grind
/-- a corner is no blend of others that are kept -/
theorem cor_ext {rows : List Z3} {z a b e : Z3} {k i j l : Int} (hz : Cor rows z) (ha : Cor rows a) (hb : Cor rows b) (he : Cor rows e) (hi : 0 < i) (hj : 0 ≤ j) (hl : 0 ≤ l)
    (h1 : k * z.1 = i * a.1 + j * b.1 + l * e.1) (h2 : k * z.2.1 = i * a.2.1 + j * b.2.1 + l * e.2.1) (h3 : k * z.2.2 = i * a.2.2 + j * b.2.2 + l * e.2.2) : a = z := by
  obtain ⟨gz, kz, o, p, ho, hp, hx, z1, z2⟩ := hz
  have t : ∀ f, f ∈ rows → reachZ f z = 0 → reachZ f a = 0 := fun f hf hfz => by
    have e1 := reach_lin (f := f) h1 h2 h3
    rw [hfz, Int.mul_zero] at e1
    have r1 := ha.2.1 f hf
    have r2 := hb.2.1 f hf
    have r3 := he.2.1 f hf
    have p2 := Int.mul_nonneg hj (by omega : 0 ≤ -reachZ f b)
    have p3 := Int.mul_nonneg hl (by omega : 0 ≤ -reachZ f e)
    rw [Int.mul_neg] at p2 p3
    rcases Int.lt_or_le (reachZ f a) 0 with q | q
    · have p1 := Int.mul_pos hi (by omega : 0 < -reachZ f a)
      rw [Int.mul_neg] at p1
      omega
    · omega
  exact tight_eq hx ha.1 gz (t o ho z1) (t p hp z2) z1 z2
/-! ### turning -/
theorem turn_cyc (a b e : Z3) : turnZ b e a = turnZ a b e := by
  unfold turnZ
  grind
theorem turn_swap (a b e : Z3) : turnZ a e b = -turnZ a b e := by
  unfold turnZ
  grind
/-- four spots: one as a blend of three -/
theorem four (a b e z : Z3) : turnZ a b e * z.1 = turnZ z b e * a.1 + turnZ a z e * b.1 + turnZ a b z * e.1 ∧ turnZ a b e * z.2.1 = turnZ z b e * a.2.1 + turnZ a z e * b.2.1 + turnZ a b z * e.2.1 ∧ turnZ a b e * z.2.2 = turnZ z b e * a.2.2 + turnZ a z e * b.2.2 + turnZ a b z * e.2.2 := by
  unfold turnZ
  refine ⟨?_, ?_, ?_⟩ <;> grind
/-- about one spot, in the order of turning: the others turn on -/
theorem turn_on {rows : List Z3} {f a b e : Z3} (hf : Cor rows f) (ha : Cor rows a) (hb : Cor rows b) (he : Cor rows e) (h1 : 0 < turnZ f a b) (h2 : 0 < turnZ f b e) (h3 : 0 < turnZ f a e) : 0 < turnZ a b e := by
  rcases Int.lt_or_le 0 (turnZ a b e) with q | q
  · exact q
  · obtain ⟨f1, f2, f3⟩ := four f a e b
    have e1 : turnZ b a e = -turnZ a b e := by
      unfold turnZ
      grind
    rw [e1] at f1 f2 f3
    have : a = b := cor_ext (z := b) (a := a) (b := e) (e := f) (k := turnZ f a e) (i := turnZ f b e) (j := turnZ f a b) (l := -turnZ a b e) hb ha he hf h2 (by omega) (by omega) (by omega) (by omega) (by omega)
    subst this
    have : turnZ f a a = 0 := by
      unfold turnZ
      grind
    omega
/-! ### the half plane above -/
def Up (x y : Int) : Prop := 0 < y ∨ (y = 0 ∧ 0 < x)
theorem half_trans {ux uy vx vy wx wy : Int} (hu : Up ux uy) (hv : Up vx vy) (hw : Up wx wy) (h1 : 0 < ux * vy - uy * vx) (h2 : 0 < vx * wy - vy * wx) : 0 < ux * wy - uy * wx := by
  have id1 : vy * (ux * wy - uy * wx) = uy * (vx * wy - vy * wx) + wy * (ux * vy - uy * vx) := by grind
  rcases hv with hv | ⟨hv, hv2⟩
  · rcases Int.lt_or_le 0 (ux * wy - uy * wx) with q | q
    · exact q
    · exfalso
      have a0 := Int.mul_nonneg (Int.le_of_lt hv) (by omega : 0 ≤ -(ux * wy - uy * wx))
      rw [Int.mul_neg] at a0
      rcases hu with hu | ⟨hu, hu2⟩
      · have a1 := Int.mul_pos hu h2
        have a2 : 0 ≤ wy * (ux * vy - uy * vx) := Int.mul_nonneg (by rcases hw with z | z <;> omega) (Int.le_of_lt h1)
        omega
      · rcases hw with hw | ⟨hw, hw2⟩
        · have a1 := Int.mul_pos hw h1
          have a2 : 0 ≤ uy * (vx * wy - vy * wx) := Int.mul_nonneg (by omega) (Int.le_of_lt h2)
          omega
        · have a1 := Int.mul_pos hv hw2
          subst hw
          rw [Int.mul_zero] at h2
          omega
  · exfalso
    subst hv
    rw [Int.mul_zero] at h1
    have : 0 ≤ uy * vx := Int.mul_nonneg (by rcases hu with z | z <;> omega) (Int.le_of_lt hv2)
    omega
theorem half_par {ux uy vx vy : Int} (hu : Up ux uy) (hv : Up vx vy) (h : ux * vy - uy * vx = 0) : ∃ s t : Int, 0 < s ∧ 0 < t ∧ s * vx = t * ux ∧ s * vy = t * uy := by
  rcases hu with hu | ⟨hu, hu2⟩
  · rcases hv with hv | ⟨hv, hv2⟩
    · exact ⟨uy, vy, hu, hv, by grind, by grind⟩
    · exfalso
      have := Int.mul_pos hu hv2
      subst hv
      rw [Int.mul_zero] at h
      omega
  · rcases hv with hv | ⟨hv, hv2⟩
    · exfalso
      have := Int.mul_pos hu2 hv
      subst hu
      rw [Int.zero_mul] at h
      omega
    · exact ⟨ux, vx, hu2, hv2, by grind, by grind⟩
def uX (f a : Z3) : Int := f.2.2 * a.1 - a.2.2 * f.1
def uY (f a : Z3) : Int := f.2.2 * a.2.1 - a.2.2 * f.2.1
theorem lower_up {f a : Z3} : lowerZ f a = true ↔ Up (uX f a) (uY f a) := by
  unfold lowerZ Up uX uY
  have e : f.2.1 * a.2.2 - a.2.1 * f.2.2 = -(f.2.2 * a.2.1 - a.2.2 * f.2.1) := by grind
  have e2 : f.1 * a.2.2 < a.1 * f.2.2 ↔ 0 < f.2.2 * a.1 - a.2.2 * f.1 := by
    rw [Int.mul_comm f.1, Int.mul_comm a.1]
    omega
  rw [e]
  split
  · rw [decide_eq_true_iff]
    omega
  · rw [decide_eq_true_iff, e2]
    omega
theorem turn_u (f a b : Z3) : f.2.2 * turnZ f a b = uX f a * uY f b - uY f a * uX f b := by
  unfold turnZ uX uY
  grind
theorem turn_pos {f a b : Z3} (hw : 0 < f.2.2) : 0 < turnZ f a b ↔ 0 < uX f a * uY f b - uY f a * uX f b := by
  rw [← turn_u]
  constructor
  · exact fun h => Int.mul_pos hw h
  · intro h
    rcases Int.lt_or_le 0 (turnZ f a b) with q | q
    · exact q
    · have := Int.mul_nonneg (Int.le_of_lt hw) (by omega : 0 ≤ -turnZ f a b)
      rw [Int.mul_neg] at this
      omega
theorem turn_trans {f a b e : Z3} (hw : 0 < f.2.2) (ha : lowerZ f a = true) (hb : lowerZ f b = true) (he : lowerZ f e = true) (h1 : 0 < turnZ f a b) (h2 : 0 < turnZ f b e) : 0 < turnZ f a e :=
  (turn_pos hw).mpr (half_trans (lower_up.mp ha) (lower_up.mp hb) (lower_up.mp he) ((turn_pos hw).mp h1) ((turn_pos hw).mp h2))
theorem cor_pos {rows : List Z3} {z : Z3} (h : Cor rows z) : 0 < z.2.2 := (good_parts h.1).1
theorem turn_ne {rows : List Z3} {f a b : Z3} (hf : Cor rows f) (ha : Cor rows a) (hb : Cor rows b) (la : lowerZ f a = true) (lb : lowerZ f b = true) (hne : a ≠ b) : turnZ f a b ≠ 0 := by
  intro h0
  have hw := cor_pos hf
  have h1 := turn_u f a b
  rw [h0, Int.mul_zero] at h1
  obtain ⟨s, t, hs, ht, e1, e2⟩ := half_par (lower_up.mp la) (lower_up.mp lb) h1.symm
  unfold uX at e1
  unfold uY at e2
  refine hne ?_
  rcases Int.lt_or_le (s * b.2.2 - t * a.2.2) 0 with q | q
  · exact (cor_ext (z := a) (a := b) (b := f) (e := f) (k := t * f.2.2) (i := s * f.2.2) (j := -(s * b.2.2 - t * a.2.2)) (l := 0) ha hb hf hf (Int.mul_pos hs hw) (by omega) (by omega) (by grind) (by grind) (by grind)).symm
  · exact cor_ext (z := b) (a := a) (b := f) (e := f) (k := s * f.2.2) (i := t * f.2.2) (j := s * b.2.2 - t * a.2.2) (l := 0) hb ha hf hf (Int.mul_pos ht hw) q (by omega) (by grind) (by grind) (by grind)
/-! ### the first is the lowest -/
theorem frac_lt_le {p P q Q r R : Int} (hP : 0 < P) (hQ : 0 < Q) (hR : 0 < R) (h1 : p * Q < q * P) (h2 : q * R ≤ r * Q) : p * R < r * P := by
  have a1 := Int.mul_lt_mul_of_pos_right h1 hR
  have a2 := Int.mul_le_mul_of_nonneg_right h2 (Int.le_of_lt hP)
  have a3 : Q * (p * R) < Q * (r * P) := by
    have e1 : p * Q * R = Q * (p * R) := by grind
    have e2 : q * P * R = q * R * P := by grind
    have e3 : r * Q * P = Q * (r * P) := by grind
    omega
  exact Int.lt_of_mul_lt_mul_left a3 (Int.le_of_lt hQ)
theorem frac_le_lt {p P q Q r R : Int} (hP : 0 < P) (hQ : 0 < Q) (hR : 0 < R) (h1 : p * Q ≤ q * P) (h2 : q * R < r * Q) : p * R < r * P := by
  have a1 := Int.mul_le_mul_of_nonneg_right h1 (Int.le_of_lt hR)
  have a2 := Int.mul_lt_mul_of_pos_right h2 hP
  have a3 : Q * (p * R) < Q * (r * P) := by
    have e1 : p * Q * R = Q * (p * R) := by grind
    have e2 : q * P * R = q * R * P := by grind
    have e3 : r * Q * P = Q * (r * P) := by grind
    omega
  exact Int.lt_of_mul_lt_mul_left a3 (Int.le_of_lt hQ)
theorem frac_eq {p P q Q r R : Int} (hQ : 0 < Q) (h1 : p * Q = q * P) (h2 : q * R = r * Q) : p * R = r * P := by
  have : Q * (p * R) = Q * (r * P) := by grind
  exact Int.eq_of_mul_eq_mul_left (by omega) this
theorem lower_iff {a b : Z3} : lowerZ a b = true ↔ a.2.1 * b.2.2 < b.2.1 * a.2.2 ∨ (a.2.1 * b.2.2 = b.2.1 * a.2.2 ∧ a.1 * b.2.2 < b.1 * a.2.2) := by
  unfold lowerZ
  split
  · rw [decide_eq_true_iff]
    omega
  · rw [decide_eq_true_iff]
    omega
theorem lower_trans {a b e : Z3} (pa : 0 < a.2.2) (pb : 0 < b.2.2) (pe : 0 < e.2.2) (h1 : lowerZ a b = true) (h2 : lowerZ b e = true) : lowerZ a e = true := by
  rw [lower_iff] at *
  rcases h1 with h1 | ⟨h1, h1'⟩
  · rcases h2 with h2 | ⟨h2, h2'⟩
    · exact .inl (frac_lt_le pa pb pe h1 (Int.le_of_lt h2))
    · exact .inl (frac_lt_le pa pb pe h1 (Int.le_of_eq h2))
  · rcases h2 with h2 | ⟨h2, h2'⟩
    · exact .inl (frac_le_lt pa pb pe (Int.le_of_eq h1) h2)
    · exact .inr ⟨frac_eq pb h1 h2, frac_lt_le pa pb pe h1' (Int.le_of_lt h2')⟩
theorem lower_total {a b : Z3} (ga : goodSpot a = true) (gb : goodSpot b = true) (h1 : lowerZ a b = false) : b = a ∨ lowerZ b a = true := by
  have h1' : ¬ (a.2.1 * b.2.2 < b.2.1 * a.2.2 ∨ (a.2.1 * b.2.2 = b.2.1 * a.2.2 ∧ a.1 * b.2.2 < b.1 * a.2.2)) := fun q => by
    rw [lower_iff.mpr q] at h1
    cases h1
  rw [lower_iff]
  by_cases e1 : a.2.1 * b.2.2 = b.2.1 * a.2.2
  · by_cases e2 : a.1 * b.2.2 = b.1 * a.2.2
    · exact .inl (good_eq ga gb e2 e1).symm
    · exact .inr (.inr ⟨e1.symm, by omega⟩)
  · exact .inr (.inl (by omega))
theorem first_low {zs : List Z3} (hg : ∀ z, z ∈ zs → goodSpot z = true) : ∀ (r : List Z3) (done : List Z3) (f : Z3), (∀ x, x ∈ r → x ∈ zs) → (∀ x, x ∈ done → x ∈ zs) → f ∈ zs → (∀ x, x ∈ done → x = f ∨ lowerZ f x = true) → ∀ x, (x ∈ done ∨ x ∈ r) → x = r.foldl lowStep f ∨ lowerZ (r.foldl lowStep f) x = true
  | [], done, f, _, _, _, h, x, hx => by
    rcases hx with hx | hx
    · exact h x hx
    · exact absurd hx (by simp)
  | y :: r, done, f, hr, hd, hf, h, x, hx => by
    have hy := hr y List.mem_cons_self
    have pos : ∀ z, z ∈ zs → 0 < z.2.2 := fun z hz => (good_parts (hg z hz)).1
    rw [List.foldl_cons]
    refine first_low hg r (done ++ [y]) (lowStep f y) (fun z hz => hr z (List.mem_cons_of_mem _ hz)) (fun z hz => ?_) (lowStep_mem hf hy) (fun z hz => ?_) x ?_
    · rcases List.mem_append.mp hz with q | q
      · exact hd z q
      · rw [List.mem_singleton.mp q]
        exact hy
    · unfold lowStep
      by_cases hl : lowerZ y f = true
      · rw [if_pos hl]
        rcases List.mem_append.mp hz with q | q
        · rcases h z q with e | e
          · rw [e]
            exact .inr hl
          · exact .inr (lower_trans (pos y hy) (pos f hf) (pos z (hd z q)) hl e)
        · exact .inl (List.mem_singleton.mp q)
      · rw [if_neg hl]
        rcases List.mem_append.mp hz with q | q
        · exact h z q
        · rw [List.mem_singleton.mp q]
          rcases lower_total (hg y hy) (hg f hf) (by simpa using hl) with e | e
          · exact .inl e.symm
          · exact .inr e
    · rcases hx with q | q
      · exact .inl (List.mem_append_left _ q)
      · rcases List.mem_cons.mp q with e | q
        · exact .inl (by rw [e]; simp)
        · exact .inr q
theorem firstZ_low {zs : List Z3} (hg : ∀ z, z ∈ zs → goodSpot z = true) (h : zs ≠ []) : ∀ x, x ∈ zs → x = firstZ zs ∨ lowerZ (firstZ zs) x = true := by
  intro x hx
  exact first_low hg zs [] (zs.getD 0 (0, 0, 0)) (fun _ h => h) (by simp) (getD_mem (List.length_pos_iff.mpr h)) (by simp) x (.inr hx)
/-! ### sorted by turning -/
def insR (p : Z3 → Bool) (s : Z3) : List Z3 → List Z3
  | [] => [s]
  | q :: r => if p q = true then q :: insR p s r else s :: q :: r
theorem insR_eq (p : Z3 → Bool) (s : Z3) : ∀ l : List Z3, l.take (l.takeWhile p).length ++ s :: l.drop (l.takeWhile p).length = insR p s l
  | [] => rfl
  | q :: r => by
    unfold insR
    rw [List.takeWhile_cons]
    by_cases h : p q = true
    · rw [if_pos h, if_pos h, List.length_cons, List.take_succ_cons, List.drop_succ_cons, List.cons_append, insR_eq p s r]
    · rw [if_neg h, if_neg h]
      rfl
theorem insR_mem {p : Z3 → Bool} {s x : Z3} : ∀ {l : List Z3}, x ∈ insR p s l → x = s ∨ x ∈ l
  | [], h => .inl (by simpa [insR] using h)
  | q :: r, h => by
    unfold insR at h
    split at h
    · rcases List.mem_cons.mp h with e | h
      · exact .inr (by rw [e]; exact List.mem_cons_self)
      · rcases insR_mem h with e | e
        · exact .inl e
        · exact .inr (List.mem_cons_of_mem _ e)
    · rcases List.mem_cons.mp h with e | h
      · exact .inl e
      · exact .inr h
/-- spots about f: corners above it -/
def Abt (rows : List Z3) (f a : Z3) : Prop := Cor rows a ∧ lowerZ f a = true
theorem insR_sorted {rows : List Z3} {f s : Z3} (hf : Cor rows f) (hs : Abt rows f s) : ∀ {l : List Z3}, (∀ x, x ∈ l → Abt rows f x) → s ∉ l → l.Pairwise (fun a b => 0 < turnZ f a b) → (insR (fun q => decide (0 < turnZ f q s)) s l).Pairwise (fun a b => 0 < turnZ f a b)
  | [], _, _, _ => List.pairwise_singleton _ _
  | q :: r, hl, hn, hp => by
    have hq := hl q List.mem_cons_self
    rw [List.pairwise_cons] at hp
    unfold insR
    by_cases h : 0 < turnZ f q s
    · rw [if_pos (decide_eq_true h), List.pairwise_cons]
      refine ⟨fun x hx => ?_, insR_sorted hf hs (fun x hx => hl x (List.mem_cons_of_mem _ hx)) (fun z => hn (List.mem_cons_of_mem _ z)) hp.2⟩
      rcases insR_mem hx with e | e
      · rw [e]
        exact h
      · exact hp.1 x e
    · rw [if_neg (by simpa using h), List.pairwise_cons, List.pairwise_cons]
      have hne : q ≠ s := fun e => hn (by rw [e]; exact List.mem_cons_self)
      have h0 := turn_ne hf hq.1 hs.1 hq.2 hs.2 hne
      have h1 : 0 < turnZ f s q := by
        have := turn_swap f q s
        omega
      refine ⟨fun x hx => ?_, hp.1, hp.2⟩
      rcases List.mem_cons.mp hx with e | e
      · rw [e]
        exact h1
      · exact turn_trans (cor_pos hf) hs.2 hq.2 (hl x (List.mem_cons_of_mem _ e)).2 h1 (hp.1 x e)
theorem ins_sorted {rows : List Z3} {f : Z3} (hf : Cor rows f) : ∀ (zs found : List Z3), (∀ x, x ∈ zs → x = f ∨ Abt rows f x) → (∀ x, x ∈ found → Abt rows f x) → zs.Nodup → (∀ x, x ∈ zs → x ∉ found) → found.Pairwise (fun a b => 0 < turnZ f a b) →
    (zs.foldl (insStep f) found).Pairwise (fun a b => 0 < turnZ f a b) ∧ ∀ x, x ∈ zs.foldl (insStep f) found → Abt rows f x
  | [], found, _, hfd, _, _, hp => ⟨hp, hfd⟩
  | s :: r, found, hz, hfd, hn, hd, hp => by
    rw [List.nodup_cons] at hn
    rw [List.foldl_cons]
    by_cases h : s = f
    · have e : insStep f found s = found := by
        unfold insStep
        rw [if_pos h]
      rw [e]
      exact ins_sorted hf r found (fun x hx => hz x (List.mem_cons_of_mem _ hx)) hfd hn.2 (fun x hx => hd x (List.mem_cons_of_mem _ hx)) hp
    · have hs : Abt rows f s := (hz s List.mem_cons_self).resolve_left h
      have e : insStep f found s = insR (fun q => decide (0 < turnZ f q s)) s found := by
        unfold insStep insAt
        rw [if_neg h, insR_eq]
      rw [e]
      refine ins_sorted hf r _ (fun x hx => hz x (List.mem_cons_of_mem _ hx)) (fun x hx => ?_) hn.2 (fun x hx q => ?_) (insR_sorted hf hs hfd (hd s List.mem_cons_self) hp)
      · rcases insR_mem hx with q | q
        · rw [q]
          exact hs
        · exact hfd x q
      · rcases insR_mem q with q | q
        · rw [q] at hx
          exact hn.1 hx
        · exact hd x (List.mem_cons_of_mem _ hx) q
/-- any three, as they stand, turn to the left -/
def Tri : List Z3 → Prop
  | [] => True
  | a :: r => r.Pairwise (fun b e => 0 < turnZ a b e) ∧ Tri r
theorem tri_of {rows : List Z3} {f : Z3} (hf : Cor rows f) : ∀ {l : List Z3}, (∀ x, x ∈ l → Abt rows f x) → l.Pairwise (fun a b => 0 < turnZ f a b) → Tri l
  | [], _, _ => trivial
  | a :: r, hl, hp => by
    rw [List.pairwise_cons] at hp
    refine ⟨?_, tri_of hf (fun x hx => hl x (List.mem_cons_of_mem _ hx)) hp.2⟩
    have ha := hl a List.mem_cons_self
    have hr : ∀ x, x ∈ r → Abt rows f x := fun x hx => hl x (List.mem_cons_of_mem _ hx)
    have hp1 := hp.1
    have hp2 := hp.2
    clear hp hl
    induction r with
    | nil => exact List.Pairwise.nil
    | cons b t ih =>
      rw [List.pairwise_cons] at hp2 ⊢
      refine ⟨fun e he => ?_, ih (fun x hx => hr x (List.mem_cons_of_mem _ hx)) (fun x hx => hp1 x (List.mem_cons_of_mem _ hx)) hp2.2⟩
      exact turn_on hf ha.1 (hr b List.mem_cons_self).1 (hr e (List.mem_cons_of_mem _ he)).1 (hp1 b List.mem_cons_self) (hp2.1 e he) (hp1 e (List.mem_cons_of_mem _ he))
theorem corners_tri (rows : List Z3) : Tri (cornersZ rows) ∧ ∀ f r, cornersZ rows = f :: r → ∀ x, x ∈ r → lowerZ f x = true := by
  have hcm : ∀ z, z ∈ meetingsZ rows → Cor rows z := fun z hz => cor_iff.mp ((corners_perm rows).mem_iff.mpr hz)
  have hn := meetings_nodup rows
  unfold cornersZ
  generalize meetingsZ rows = zs at hcm hn ⊢
  by_cases h : zs = []
  · rw [if_pos h]
    exact ⟨trivial, fun f r e => by cases e⟩
  · rw [if_neg h]
    have hg : ∀ z, z ∈ zs → goodSpot z = true := fun z hz => (hcm z hz).1
    have hlow := firstZ_low hg h
    have hfc := hcm _ (firstZ_mem h)
    obtain ⟨h1, h2⟩ := ins_sorted hfc zs [] (fun x hx => (hlow x hx).imp id fun q => ⟨hcm x hx, q⟩) (by simp) hn (by simp) List.Pairwise.nil
    unfold orderZ
    refine ⟨⟨h1, tri_of hfc h2 h1⟩, fun f r e x hx => ?_⟩
    injection e with e1 e2
    subst e1 e2
    exact (h2 x hx).2
theorem tri_get : ∀ {l : List Z3} {i j k : Nat} {a b e : Z3}, Tri l → i < j → j < k → l[i]? = some a → l[j]? = some b → l[k]? = some e → 0 < turnZ a b e
  | [], i, j, k, a, b, e, _, _, _, h, _, _ => by simp at h
  | x :: r, 0, j + 1, k + 1, a, b, e, h, _, hjk, ha, hb, he => by
    simp only [List.getElem?_cons_zero, Option.some.injEq, List.getElem?_cons_succ] at ha hb he
    subst ha
    obtain ⟨hj, hb'⟩ := List.getElem?_eq_some_iff.mp hb
    obtain ⟨hk, he'⟩ := List.getElem?_eq_some_iff.mp he
    have := List.pairwise_iff_getElem.mp h.1 j k hj hk (by omega)
    rw [hb', he'] at this
    exact this
  | x :: r, i + 1, j + 1, k + 1, a, b, e, h, hij, hjk, ha, hb, he => by
    simp only [List.getElem?_cons_succ] at ha hb he
    exact tri_get h.2 (by omega) (by omega) ha hb he
/-- the place behind k, going round -/
def prv (n k : Nat) : Nat := if k = 0 then n - 1 else k - 1
theorem getD_some {l : List Z3} {i : Nat} (h : i < l.length) : l[i]? = some (l.getD i (0, 0, 0)) := by
  rw [List.getD_eq_getElem?_getD, List.getElem?_eq_getElem h]
  rfl
theorem prv_lt {n k : Nat} (h : k < n) : prv n k < n := by
  unfold prv
  split <;> omega
/-- from each to the next, all others lie on the left -/
theorem cyc_left {l : List Z3} (h : Tri l) {k : Nat} (hk : k < l.length) {s : Z3} (hs : s ∈ l) (h1 : s ≠ l.getD (prv l.length k) (0, 0, 0)) (h2 : s ≠ l.getD k (0, 0, 0)) : 0 < turnZ (l.getD (prv l.length k) (0, 0, 0)) (l.getD k (0, 0, 0)) s := by
  obtain ⟨j, hj, rfl⟩ := List.mem_iff_getElem.mp hs
  have ej : l[j]? = some l[j] := List.getElem?_eq_getElem hj
  have hp := prv_lt hk
  have ep := getD_some hp
  have ek := getD_some hk
  have n1 : j ≠ prv l.length k := fun q => by
    subst q
    rw [ej] at ep
    exact h1 (Option.some.inj ep)
  have n2 : j ≠ k := fun q => by
    subst q
    rw [ej] at ek
    exact h2 (Option.some.inj ek)
  generalize hpp : prv l.length k = p at *
  unfold prv at hpp
  split at hpp
  · subst k
    rw [← turn_cyc]
    exact tri_get h (by omega) (by omega) ek ej ep
  · rcases Nat.lt_or_ge j k with q | q
    · rw [turn_cyc]
      exact tri_get h (by omega) (by omega) ej ep ek
    · exact tri_get h (by omega) (by omega) ep ek ej
theorem atI_prv {l : List Z3} {k : Nat} (h : k < l.length) : atI (l.map d3) ((0 + (k : Int)) - 1) = some (d3 (l.getD (prv l.length k) (0, 0, 0))) := by
  by_cases hk : k = 0
  · subst hk
    have e : prv l.length 0 = l.length - 1 := rfl
    rw [e]
    have e2 : atI (l.map d3) (-1) = (l.map d3)[l.length - 1]? := by
      have : ixN (l.map d3).length (-1) = some (l.length - 1) := by
        rw [List.length_map]
        unfold ixN
        simp
        omega
      unfold atI
      rw [this]
      rfl
    show atI (l.map d3) (-1) = _
    rw [e2, List.getElem?_map, getD_some (by omega)]
    rfl
  · have e : prv l.length k = k - 1 := by
      unfold prv
      rw [if_neg hk]
    have e2 : (0 + (k : Int)) - 1 = ((k - 1 : Nat) : Int) := by omega
    rw [e, e2]
    refine atI_nat ?_
    rw [List.getElem?_map, getD_some (by omega)]
    rfl
theorem atI_k {l : List Z3} {k : Nat} (h : k < l.length) : atI (l.map d3) (0 + (k : Int)) = some (d3 (l.getD k (0, 0, 0))) := by
  rw [Int.zero_add]
  refine atI_nat ?_
  rw [List.getElem?_map, getD_some h]
  rfl
/-! ### pairs -/
abbrev Z2 := Int × Int
def d2 (z : Z2) : PyData := .tuple [.int z.1, .int z.2]
theorem d2_shaped (z : Z2) : SeqAt.shaped (d2 z) = true := rfl
theorem eqv_d2 (z y : Z2) : PyData.eqv (d2 z) (d2 y) = decide (z = y) := by
  obtain ⟨a, b⟩ := z
  obtain ⟨a', b'⟩ := y
  show PyData.eqv (.tuple [.int a, .int b]) (.tuple [.int a', .int b']) = _
  simp only [PyData.eqv, PyData.eqvAll]
  by_cases h1 : a = a' <;> by_cases h2 : b = b' <;> simp [h1, h2]
theorem irng0 (n : Nat) : irng 0 n = (List.range n).map (fun (i : Nat) => PyData.int (i : Int)) := by
  unfold irng
  congr 1
  funext i
  rw [Int.zero_add]
theorem atI_n {l : List Z3} {k : Nat} (h : k < l.length) : atI (l.map d3) (k : Int) = some (d3 (l.getD k (0, 0, 0))) := by
  refine atI_nat ?_
  rw [List.getElem?_map, getD_some h]
  rfl
def lastZ (a : Z3) : List Z3 → Z3
  | [] => a
  | b :: r => lastZ b r
theorem lastZ_getD (a : Z3) : ∀ (r : List Z3), lastZ a r = (a :: r).getD r.length (0, 0, 0)
  | [] => rfl
  | b :: r => by
    show lastZ b r = (b :: r).getD r.length (0, 0, 0)
    exact lastZ_getD b r
end LL
namespace LL
open PySem L2 PD
/-! ### fractions -/
/-- in lowest terms -/
def redZ (m b : Int) : Z2 := (m.fdiv (gcdN m.natAbs b), b.fdiv (gcdN m.natAbs b))
theorem red_split {m b : Int} (hb : 0 < b) : ∃ g m' b' : Int, 0 < g ∧ gcdN m.natAbs b = g ∧ redZ m b = (m', b') ∧ m = g * m' ∧ b = g * b' ∧ 0 < b' ∧ Nat.gcd m'.natAbs b'.natAbs = 1 := by
  have e : (b.natAbs : Int) = b := by omega
  have hg : gcdN m.natAbs b = ((Nat.gcd m.natAbs b.natAbs : Nat) : Int) := by
    unfold gcdN
    rw [← e, Int.gcd_natCast_natCast, e]
  have hgm : ((Nat.gcd m.natAbs b.natAbs : Nat) : Int) ∣ m := Int.ofNat_dvd_left.mpr (Nat.gcd_dvd_left _ _)
  have hgb : ((Nat.gcd m.natAbs b.natAbs : Nat) : Int) ∣ b := Int.ofNat_dvd_left.mpr (Nat.gcd_dvd_right _ _)
  have hg0 : 0 < Nat.gcd m.natAbs b.natAbs := Nat.gcd_pos_of_pos_right _ (by omega)
  obtain ⟨m1, hm1⟩ := hgm
  obtain ⟨b1, hb1⟩ := hgb
  have hcop : Nat.gcd m1.natAbs b1.natAbs = 1 := by
    have e1 : Nat.gcd m.natAbs b.natAbs * 1 = Nat.gcd m.natAbs b.natAbs * Nat.gcd m1.natAbs b1.natAbs := by
      rw [← Nat.gcd_mul_left, Nat.mul_one]
      have a1 : m.natAbs = Nat.gcd m.natAbs b.natAbs * m1.natAbs := by
        have := congrArg Int.natAbs hm1
        rw [Int.natAbs_mul, Int.natAbs_natCast] at this
        exact this
      have a2 : b.natAbs = Nat.gcd m.natAbs b.natAbs * b1.natAbs := by
        have := congrArg Int.natAbs hb1
        rw [Int.natAbs_mul, Int.natAbs_natCast] at this
        exact this
      rw [← a1, ← a2]
    exact (Nat.eq_of_mul_eq_mul_left hg0 e1).symm
  refine ⟨((Nat.gcd m.natAbs b.natAbs : Nat) : Int), m1, b1, by omega, hg, ?_, hm1, hb1, ?_, hcop⟩
  · unfold redZ
    rw [hg]
    generalize ((Nat.gcd m.natAbs b.natAbs : Nat) : Int) = g at hm1 hb1 hg
    have hgn : g ≠ 0 := by
      intro q
      rw [q, Int.zero_mul] at hb1
      omega
    rw [hm1, hb1, Int.mul_fdiv_cancel_left _ hgn, Int.mul_fdiv_cancel_left _ hgn]
  · rcases Int.lt_or_le 0 b1 with q | q
    · exact q
    · have := Int.mul_nonneg (by omega : (0 : Int) ≤ ((Nat.gcd m.natAbs b.natAbs : Nat) : Int)) (by omega : 0 ≤ -b1)
      rw [Int.mul_neg] at this
      omega
theorem red_div {m b : Int} (hb : 0 < b) (hl : b.natAbs < 2 ^ 8000) (z : Int) : CDivA z (gcdN m.natAbs b) := by
  obtain ⟨g, m', b', hg, e, _, _, e2, hb', _⟩ := red_split (m := m) hb
  rw [e]
  refine ⟨by omega, Nat.lt_trans (PySem.Flt.log2_lt_of (Nat.zero_lt_succ 7999) ?_) (by decide)⟩
  refine Nat.lt_of_le_of_lt ?_ hl
  rw [e2, Int.natAbs_mul]
  exact Nat.le_mul_of_pos_right _ (by omega)
theorem red_lw {m b : Int} {i j : Nat} (hb : 0 < b) (h1 : Lw i m) (h2 : Lw j b) : Lw i (redZ m b).1 ∧ 0 < (redZ m b).2 ∧ Lw j (redZ m b).2 := by
  obtain ⟨g, m', b', hg, e, e0, e1, e2, hb', _⟩ := red_split (m := m) hb
  rw [e0]
  have k : ∀ z z' : Int, z = g * z' → z'.natAbs ≤ z.natAbs := fun z z' q => by
    rw [q, Int.natAbs_mul]
    exact Nat.le_mul_of_pos_left _ (by omega)
  exact ⟨Nat.lt_of_le_of_lt (k _ _ e1) h1, hb', Nat.lt_of_le_of_lt (k _ _ e2) h2⟩
/-! ### the area, corner by corner -/
def areaStep (s : Z2) (a b : Z3) : Z2 := redZ (s.1 * a.2.2 * b.2.2 + (a.1 * b.2.1 - b.1 * a.2.1) * s.2) (s.2 * a.2.2 * b.2.2)
def areaZ (cs : List Z3) : Z2 := (List.range cs.length).foldl (fun s k => areaStep s (cs.getD (prv cs.length k) (0, 0, 0)) (cs.getD k (0, 0, 0))) (0, 1)
/-- corners as they come: bounds for the area -/
def Bw (z : Z3) : Prop := Bz 41 z ∧ 0 < z.2.2 ∧ Lw 21 z.2.2
theorem areaStep_bd {s : Z2} {a b : Z3} {k : Nat} (ha : Bw a) (hb : Bw b) (h1 : Lw (100 + 43 * k) s.1) (h2 : 0 < s.2) (h3 : Lw (1 + 42 * k) s.2) :
    Lw (100 + 43 * (k + 1)) (areaStep s a b).1 ∧ 0 < (areaStep s a b).2 ∧ Lw (1 + 42 * (k + 1)) (areaStep s a b).2 := by
  unfold areaStep
  have e1 : Lw (100 + 43 * k + 21 + 21) (s.1 * a.2.2 * b.2.2) := lw_mul (lw_mul h1 ha.2.2) hb.2.2
  have e2 : Lw (41 + 41 + 1 + (1 + 42 * k)) ((a.1 * b.2.1 - b.1 * a.2.1) * s.2) := lw_mul (lw_sub (lw_mul ha.1.1 hb.1.2.1) (lw_mul hb.1.1 ha.1.2.1)) h3
  have e3 : Lw (100 + 43 * (k + 1)) (s.1 * a.2.2 * b.2.2 + (a.1 * b.2.1 - b.1 * a.2.1) * s.2) := (lw_add (a := 100 + 43 * k + 42) (e1.mono (by omega)) (e2.mono (by omega))).mono (by omega)
  have e4 : Lw (1 + 42 * (k + 1)) (s.2 * a.2.2 * b.2.2) := (lw_mul (lw_mul h3 ha.2.2) hb.2.2).mono (by omega)
  exact red_lw (Int.mul_pos (Int.mul_pos h2 ha.2.1) hb.2.1) e3 e4
theorem fold_range {β : Type} {f : β → Nat → β} {I : Nat → β → Prop} : ∀ (n : Nat) (s : β), I 0 s → (∀ k s, k < n → I k s → I (k + 1) (f s k)) → I n ((List.range n).foldl f s)
  | 0, s, h0, _ => h0
  | n + 1, s, h0, h => by
    rw [List.range_succ, List.foldl_append]
    exact h n _ (by omega) (fold_range n s h0 fun k s hk => h k s (by omega))
theorem areaZ_bd {cs : List Z3} (h : ∀ z, z ∈ cs → Bw z) : Lw (100 + 43 * cs.length) (areaZ cs).1 ∧ 0 < (areaZ cs).2 ∧ Lw (1 + 42 * cs.length) (areaZ cs).2 := by
  unfold areaZ
  refine fold_range (I := fun k s => Lw (100 + 43 * k) s.1 ∧ 0 < s.2 ∧ Lw (1 + 42 * k) s.2) cs.length (0, 1) ?_ ?_
  · refine ⟨?_, by decide, ?_⟩
    · exact (show Lw 1 0 by unfold Lw; decide).mono (by omega)
    · unfold Lw
      decide
  · intro k s hk hs
    exact areaStep_bd (h _ (getD_mem (prv_lt hk))) (h _ (getD_mem hk)) hs.1 hs.2.1 hs.2.2
theorem meetRow_len' {rows found : List Z3} {k : Nat} : (meetRow rows found k).length ≤ found.length + (rows.length - (k + 1)) := by
  have h := fold_inv (fun fs p => meetStep rows fs (rows.getD k (0, 0, 0)) p) (fun i s => s.length ≤ found.length + i) (rows.length - (k + 1)) (rows.drop (k + 1)) 0 found (by rw [List.length_drop]; omega) (Nat.le_refl _) (fun i s x _ _ hs => by
    have := meetStep_len (rows := rows) (found := s) (o := rows.getD k (0, 0, 0)) (p := x)
    omega)
  simp only [List.length_drop] at h
  unfold meetRow
  omega
def pairsN (n : Nat) : Nat → Nat
  | 0 => 0
  | k + 1 => pairsN n k + (n - (k + 1))
theorem pairs_le {n : Nat} (h : n ≤ 20) : pairsN n n ≤ 190 := by
  have : ∀ n : Fin 21, pairsN n n ≤ 190 := by decide
  exact this ⟨n, by omega⟩
theorem corners_len190 {rows : List Z3} (hl : rows.length ≤ 20) : (cornersZ rows).length ≤ 190 := by
  rw [(corners_perm rows).length_eq]
  refine Nat.le_trans ?_ (pairs_le hl)
  unfold meetingsZ
  have h0 : ([] : List Z3).length ≤ pairsN rows.length 0 := Nat.zero_le _
  exact fold_range (f := meetRow rows) (I := fun k (s : List Z3) => s.length ≤ pairsN rows.length k) rows.length [] h0 fun k s hk hs => by
    have := meetRow_len' (rows := rows) (found := s) (k := k)
    unfold pairsN
    omega
theorem corners_bw {rows : List Z3} (h : ∀ f, f ∈ rows → okF f = true) {z : Z3} (hz : z ∈ cornersZ rows) : Bw z := by
  refine ⟨corners_bz h hz, cor_pos (cor_iff.mp hz), ?_⟩
  obtain ⟨o, p, ho, hp, hx, _, rfl⟩ := corners_mem.mp hz
  obtain ⟨k, x', y', b', hk, e, e1, e2, e3, _, _⟩ := spot_split (o.2.2 * p.2.1 - p.2.2 * o.2.1) (o.1 * p.2.2 - p.1 * o.2.2) (crossZ o p) hx
  have e' : meetZ o p = (x', y', b') := e
  rw [e']
  obtain ⟨a1, a2, _⟩ := okF_bd (h o ho)
  obtain ⟨b1, b2, _⟩ := okF_bd (h p hp)
  have c1 : (o.1 * p.2.1).natAbs ≤ 1000 * 1000 := by
    rw [Int.natAbs_mul]
    exact Nat.mul_le_mul a1 b2
  have c2 : (o.2.1 * p.1).natAbs ≤ 1000 * 1000 := by
    rw [Int.natAbs_mul]
    exact Nat.mul_le_mul a2 b1
  have c3 : (crossZ o p).natAbs ≤ 2000000 := by
    unfold crossZ
    omega
  have c4 : b'.natAbs ≤ (crossZ o p).natAbs := by
    rw [e3, Int.natAbs_mul]
    exact Nat.le_mul_of_pos_left _ (by omega)
  unfold Lw
  show b'.natAbs < _
  omega
/-! ### what the area is worth -/
def vR (s : Z2) : Rat := (s.1 : Rat) / (s.2 : Rat)
def cR (a b : Z3) : Rat := ((a.1 : Rat) * b.2.1 - (b.1 : Rat) * a.2.1) / ((a.2.2 : Rat) * b.2.2)
theorem ratne {i : Int} (h : 0 < i) : (i : Rat) ≠ 0 := by
  intro q
  have : i = 0 := by exact_mod_cast q
  omega
theorem red_val {m b : Int} (hb : 0 < b) : vR (redZ m b) = (m : Rat) / (b : Rat) := by
  obtain ⟨g, m', b', hg, e, e0, e1, e2, hb', _⟩ := red_split (m := m) hb
  rw [e0, e1, e2]
  unfold vR
  have n1 := ratne hg
  have n2 := ratne hb'
  simp only [Rat.intCast_mul]
  grind
theorem step_val {s : Z2} {a b : Z3} (h2 : 0 < s.2) (ha : 0 < a.2.2) (hb : 0 < b.2.2) : vR (areaStep s a b) = vR s + cR a b := by
  unfold areaStep
  rw [red_val (Int.mul_pos (Int.mul_pos h2 ha) hb)]
  unfold vR cR
  have n1 := ratne h2
  have n2 := ratne ha
  have n3 := ratne hb
  simp only [Rat.intCast_mul, Rat.intCast_add, Rat.intCast_sub]
  grind
/-! ### going round -/
def pathR : List Z3 → Rat
  | a :: b :: r => cR a b + pathR (b :: r)
  | _ => 0
/-- all the way round -/
def ringR : List Z3 → Rat
  | [] => 0
  | a :: r => cR (lastZ a r) a + pathR (a :: r)
def triR (a b e : Z3) : Rat := cR a b + cR b e + cR e a
/-- the fan about the first -/
def fanR (a : Z3) : List Z3 → Rat
  | b :: e :: r => triR a b e + fanR a (e :: r)
  | _ => 0
theorem cR_anti (a b : Z3) : cR b a = -cR a b := by
  unfold cR
  rw [Rat.mul_comm (b.2.2 : Rat)]
  grind
theorem fan_path (a : Z3) : ∀ (b : Z3) (r : List Z3), cR a b + pathR (b :: r) + cR (lastZ b r) a = fanR a (b :: r)
  | b, [] => by
    show cR a b + 0 + cR b a = 0
    rw [cR_anti a b]
    grind
  | b, e :: r => by
    have h := fan_path a e r
    have h1 := cR_anti a e
    show cR a b + (cR b e + pathR (e :: r)) + cR (lastZ e r) a = triR a b e + fanR a (e :: r)
    unfold triR
    grind
theorem ring_fan : ∀ (a : Z3) (r : List Z3), ringR (a :: r) = fanR a r
  | a, [] => by
    show cR a a + 0 = 0
    have := cR_anti a a
    grind
  | a, b :: r => by
    rw [← fan_path a b r]
    show cR (lastZ b r) a + (cR a b + pathR (b :: r)) = _
    grind
theorem triR_eq {a b e : Z3} (ha : 0 < a.2.2) (hb : 0 < b.2.2) (he : 0 < e.2.2) : triR a b e = (turnZ a b e : Rat) / ((a.2.2 : Rat) * b.2.2 * e.2.2) := by
  unfold triR cR turnZ
  have n1 := ratne ha
  have n2 := ratne hb
  have n3 := ratne he
  simp only [Rat.intCast_mul, Rat.intCast_add, Rat.intCast_sub]
  grind
theorem ratpos {i : Int} (h : 0 < i) : (0 : Rat) < (i : Rat) := by exact_mod_cast h
theorem ratnn {i : Int} (h : 0 ≤ i) : (0 : Rat) ≤ (i : Rat) := by exact_mod_cast h
theorem triR_nn {a b e : Z3} (ha : 0 < a.2.2) (hb : 0 < b.2.2) (he : 0 < e.2.2) (h : 0 ≤ turnZ a b e) : 0 ≤ triR a b e := by
  rw [triR_eq ha hb he]
  rw [Rat.div_def]
  exact Rat.mul_nonneg (ratnn h) (Rat.le_of_lt (Rat.inv_pos.mpr (Rat.mul_pos (Rat.mul_pos (ratpos ha) (ratpos hb)) (ratpos he))))
theorem fan_nn {a : Z3} (ha : 0 < a.2.2) : ∀ {l : List Z3}, (∀ z, z ∈ l → 0 < z.2.2) → l.Pairwise (fun b e => 0 < turnZ a b e) → 0 ≤ fanR a l
  | [], _, _ => by show (0 : Rat) ≤ 0; exact Rat.le_refl
  | [b], _, _ => by show (0 : Rat) ≤ 0; exact Rat.le_refl
  | b :: e :: r, hp, h => by
    have h1 := triR_nn ha (hp b (by simp)) (hp e (by simp)) (Int.le_of_lt ((List.pairwise_cons.mp h).1 e (by simp)))
    have h2 := fan_nn ha (l := e :: r) (fun z hz => hp z (List.mem_cons_of_mem _ hz)) (List.pairwise_cons.mp h).2
    show 0 ≤ triR a b e + fanR a (e :: r)
    exact Rat.add_nonneg h1 h2
theorem range_pairs {β : Type} (f : β → Z3 → Z3 → β) : ∀ (l : List Z3) (a : Z3) (s : β), (List.range l.length).foldl (fun s k => f s ((a :: l).getD k (0, 0, 0)) (l.getD k (0, 0, 0))) s = (List.zip (a :: l) l).foldl (fun s p => f s p.1 p.2) s
  | [], a, s => rfl
  | b :: r, a, s => by
    rw [List.length_cons, List.range_succ_eq_map, List.foldl_cons, List.foldl_map, List.zip_cons_cons, List.foldl_cons]
    exact range_pairs f r b _
theorem zip_val : ∀ (l : List Z3) (a : Z3) (s : Z2), 0 < a.2.2 → (∀ z, z ∈ l → 0 < z.2.2) → 0 < s.2 → vR ((List.zip (a :: l) l).foldl (fun s p => areaStep s p.1 p.2) s) = vR s + pathR (a :: l) ∧ 0 < ((List.zip (a :: l) l).foldl (fun s p => areaStep s p.1 p.2) s).2
  | [], a, s, _, _, hs => by
    refine ⟨?_, hs⟩
    show vR s = vR s + 0
    grind
  | b :: r, a, s, ha, hl, hs => by
    rw [List.zip_cons_cons, List.foldl_cons]
    have hb := hl b List.mem_cons_self
    have h2 : 0 < (areaStep s a b).2 := by
      unfold areaStep
      obtain ⟨g, m', b', hg, e, e0, e1, e2, hb', _⟩ := red_split (m := s.1 * a.2.2 * b.2.2 + (a.1 * b.2.1 - b.1 * a.2.1) * s.2) (Int.mul_pos (Int.mul_pos hs ha) hb)
      rw [e0]
      exact hb'
    obtain ⟨h3, h4⟩ := zip_val r b (areaStep s a b) hb (fun z hz => hl z (List.mem_cons_of_mem _ hz)) h2
    refine ⟨?_, h4⟩
    rw [h3, step_val hs ha hb]
    show vR s + cR a b + pathR (b :: r) = vR s + (cR a b + pathR (b :: r))
    grind
theorem vR01 : vR (0, 1) = 0 := by
  show ((0 : Int) : Rat) / ((1 : Int) : Rat) = 0
  rw [Rat.intCast_zero]
  grind
theorem areaZ_val {cs : List Z3} (h : ∀ z, z ∈ cs → 0 < z.2.2) : vR (areaZ cs) = ringR cs ∧ 0 < (areaZ cs).2 := by
  cases cs with
  | nil =>
    refine ⟨?_, by decide⟩
    exact vR01
  | cons c r =>
    have hl : 0 < (lastZ c r).2.2 := by
      rw [lastZ_getD]
      exact h _ (getD_mem (by simp))
    have e : areaZ (c :: r) = (List.zip (lastZ c r :: c :: r) (c :: r)).foldl (fun s p => areaStep s p.1 p.2) (0, 1) := by
      rw [← range_pairs]
      unfold areaZ
      congr 1
      funext s k
      have : (c :: r).getD (prv (c :: r).length k) (0, 0, 0) = (lastZ c r :: c :: r).getD k (0, 0, 0) := by
        unfold prv
        by_cases hk : k = 0
        · rw [if_pos hk, hk, List.getD_cons_zero, lastZ_getD]
          rfl
        · rw [if_neg hk]
          obtain ⟨j, rfl⟩ : ∃ j, k = j + 1 := ⟨k - 1, by omega⟩
          rfl
      rw [this]
    obtain ⟨h1, h2⟩ := zip_val (c :: r) (lastZ c r) (0, 1) hl h (by decide)
    rw [e, h1]
    refine ⟨?_, h2⟩
    show vR (0, 1) + (cR (lastZ c r) c + pathR (c :: r)) = cR (lastZ c r) c + pathR (c :: r)
    rw [vR01]
    grind
theorem vR_nn {s : Z2} (h2 : 0 < s.2) (h : 0 ≤ vR s) : 0 ≤ s.1 := by
  unfold vR at h
  have n := ratpos h2
  have : (0 : Rat) ≤ (s.1 : Rat) := by
    have e : (s.1 : Rat) = (s.1 : Rat) / s.2 * s.2 := by
      have := ratne h2
      grind
    rw [e]
    exact Rat.mul_nonneg h (Rat.le_of_lt n)
  exact_mod_cast this
/-- the area is not below nought -/
theorem area_nn (rows : List Z3) : 0 ≤ (areaZ (cornersZ rows)).1 := by
  have hp : ∀ z, z ∈ cornersZ rows → 0 < z.2.2 := fun z hz => cor_pos (cor_iff.mp hz)
  obtain ⟨h1, h2⟩ := areaZ_val hp
  refine vR_nn h2 ?_
  rw [h1]
  have ht := (corners_tri rows).1
  generalize cornersZ rows = cs at hp ht ⊢
  cases cs with
  | nil => exact Rat.le_refl
  | cons a r =>
    rw [ring_fan]
    exact fan_nn (hp a List.mem_cons_self) (fun z hz => hp z (List.mem_cons_of_mem _ hz)) ht.1
/-- nought in lowest terms -/
theorem vR_zero {m b : Int} (hb : 0 < b) (hm : m = 0) : redZ m b = (0, 1) := by
  obtain ⟨g, m', b', hg, e, e0, e1, e2, hb', hc⟩ := red_split (m := m) hb
  rw [e0]
  have h1 : m' = 0 := by
    rw [hm] at e1
    rcases Int.mul_eq_zero.mp e1.symm with q | q
    · omega
    · exact q
  subst h1
  rw [show ((0 : Int)).natAbs = 0 from rfl, Nat.gcd_zero_left] at hc
  have : b' = 1 := by omega
  rw [this]
theorem area_few {cs : List Z3} (h : ∀ z, z ∈ cs → 0 < z.2.2) (hl : cs.length ≤ 2) : areaZ cs = (0, 1) := by
  match cs, hl, h with
  | [], _, _ => rfl
  | [a], _, h =>
    have ha := h a (by simp)
    show areaStep (0, 1) a a = (0, 1)
    unfold areaStep
    exact vR_zero (Int.mul_pos (Int.mul_pos (by decide) ha) ha) (by grind)
  | [a, b], _, h =>
    have ha := h a (by simp)
    have hb := h b (by simp)
    show areaStep (areaStep (0, 1) b a) a b = (0, 1)
    have e : areaStep (0, 1) b a = redZ (b.1 * a.2.1 - a.1 * b.2.1) (b.2.2 * a.2.2) := by
      unfold areaStep
      congr 1 <;> grind
    rw [e]
    obtain ⟨g, m', b', hg, e0, e1, e2, e3, hb', _⟩ := red_split (m := b.1 * a.2.1 - a.1 * b.2.1) (Int.mul_pos hb ha)
    rw [e1]
    unfold areaStep
    refine vR_zero (Int.mul_pos (Int.mul_pos hb' ha) hb) ?_
    simp only
    have q1 : m' * a.2.2 * b.2.2 = m' * (g * b') := by
      rw [← e3]
      grind
    have q2 : (a.1 * b.2.1 - b.1 * a.2.1) * b' = -(g * m') * b' := by
      rw [← e2]
      grind
    rw [q1, q2]
    grind
end LL
namespace LL
open PySem L2 PD
/-! ### the rows of a ground: one for each fence that came, none where it was taken -/
abbrev Rw := List (Option Z3)
def rwD : Option Z3 → D
  | none => .none
  | some z => d3 z
def standF : Nat → Rw → List (Int × Z3)
  | _, [] => []
  | i, none :: r => standF (i + 1) r
  | i, some z :: r => ((i : Int), z) :: standF (i + 1) r
def stand (rs : Rw) : List (Int × Z3) := standF 0 rs
def fncs (rs : Rw) : List Z3 := rs.filterMap id
def kvOf (rs : Rw) : List (Int × D) := (stand rs).map fun x => (x.1, d3 x.2)
def gOf (C p d : Addr) (n : Int) (rs : Rw) : Gs := ⟨C, p, d, n, kvOf rs, rs.length⟩
def sD (x : Int × Z3) : D := .tuple [.int x.1, d3 x.2]
theorem standF_snd : ∀ (i : Nat) (rs : Rw), (standF i rs).map (·.2) = fncs rs
  | _, [] => rfl
  | i, none :: r => by
    show (standF (i + 1) r).map _ = fncs (none :: r)
    rw [standF_snd (i + 1) r]
    rfl
  | i, some z :: r => by
    show z :: (standF (i + 1) r).map _ = z :: fncs r
    rw [standF_snd (i + 1) r]
theorem stand_len (rs : Rw) : (stand rs).length = (fncs rs).length := by
  have := congrArg List.length (standF_snd 0 rs)
  rw [List.length_map] at this
  exact this
theorem standF_ge : ∀ (i : Nat) (rs : Rw) (x : Int × Z3), x ∈ standF i rs → (i : Int) ≤ x.1 ∧ x.1 < i + rs.length
  | _, [], x, h => by simp [standF] at h
  | i, none :: r, x, h => by
    have := standF_ge (i + 1) r x h
    simp only [List.length_cons]
    omega
  | i, some z :: r, x, h => by
    rcases List.mem_cons.mp h with q | q
    · subst q
      simp only [List.length_cons]
      omega
    · have := standF_ge (i + 1) r x q
      simp only [List.length_cons]
      omega
theorem standF_pw : ∀ (i : Nat) (rs : Rw), ((standF i rs).map (·.1)).Pairwise (· < ·)
  | _, [] => List.Pairwise.nil
  | i, none :: r => standF_pw (i + 1) r
  | i, some z :: r => by
    show ((i : Int) :: (standF (i + 1) r).map (·.1)).Pairwise _
    rw [List.pairwise_cons]
    refine ⟨fun k hk => ?_, standF_pw (i + 1) r⟩
    obtain ⟨x, hx, rfl⟩ := List.mem_map.mp hk
    have := standF_ge (i + 1) r x hx
    omega
theorem kv_keys (rs : Rw) : (kvOf rs).map (·.1) = (stand rs).map (·.1) := by
  unfold kvOf
  rw [List.map_map]
  rfl
theorem kvOf_pw (rs : Rw) : ((kvOf rs).map (·.1)).Pairwise (· < ·) := by
  rw [kv_keys]
  exact standF_pw 0 rs
theorem kvOf_len (rs : Rw) : (kvOf rs).length = (fncs rs).length := by
  unfold kvOf
  rw [List.length_map, stand_len]
theorem kvGet_cons (x : Int × D) (r : List (Int × D)) (k : Int) : kvGet (x :: r) k = if x.1 = k then some x.2 else kvGet r k := by
  unfold kvGet
  by_cases h : x.1 = k
  · rw [List.find?_cons_of_pos (by simpa using h), if_pos h]
    rfl
  · rw [List.find?_cons_of_neg (by simpa using h), if_neg h]
def rowAt (rs : Rw) (k : Int) : Option Z3 := if k < 0 then none else (rs[k.toNat]?).getD none
theorem get_standF : ∀ (i : Nat) (rs : Rw) (k : Int), kvGet ((standF i rs).map fun x => (x.1, d3 x.2)) k = if k < i then none else ((rs[(k - i).toNat]?).getD none).map d3
  | i, [], k => by
    show kvGet [] k = _
    split <;> rfl
  | i, none :: r, k => by
    show kvGet ((standF (i + 1) r).map fun x => (x.1, d3 x.2)) k = _
    rw [get_standF (i + 1) r k]
    by_cases h : k < i
    · rw [if_pos h, if_pos (by omega)]
    · rw [if_neg h]
      by_cases h2 : k = i
      · subst h2
        rw [if_pos (by omega), show ((i : Int) - i).toNat = 0 by omega]
        rfl
      · rw [if_neg (by omega), show (k - (i : Int)).toNat = (k - ((i + 1 : Nat) : Int)).toNat + 1 by omega, List.getElem?_cons_succ]
  | i, some z :: r, k => by
    show kvGet (((i : Int), d3 z) :: (standF (i + 1) r).map fun x => (x.1, d3 x.2)) k = _
    rw [kvGet_cons, get_standF (i + 1) r k]
    by_cases h : k < i
    · rw [if_pos h, if_neg (by show ¬ (i : Int) = k; omega), if_pos (by omega)]
    · rw [if_neg h]
      by_cases h2 : k = i
      · subst h2
        rw [if_pos (by show (i : Int) = i; rfl), show ((i : Int) - i).toNat = 0 by omega]
        rfl
      · rw [if_neg (by show ¬ (i : Int) = k; omega), if_neg (by omega), show (k - (i : Int)).toNat = (k - ((i + 1 : Nat) : Int)).toNat + 1 by omega, List.getElem?_cons_succ]
theorem kvGet_of (rs : Rw) (k : Int) : kvGet (kvOf rs) k = (rowAt rs k).map d3 := by
  unfold kvOf stand rowAt
  rw [get_standF]
  by_cases h : k < 0
  · rw [if_pos (by omega), if_pos h]
    rfl
  · rw [if_neg (by omega), if_neg h, show (k - ((0 : Nat) : Int)) = k by omega]
theorem rowAt_len (rs : Rw) : rowAt rs rs.length = none := by
  unfold rowAt
  rw [if_neg (by omega), List.getElem?_eq_none (by omega)]
  rfl
theorem rowAt_some {rs : Rw} {k : Int} {z : Z3} (h : rowAt rs k = some z) : 0 ≤ k ∧ k < rs.length ∧ rs[k.toNat]? = some (some z) := by
  unfold rowAt at h
  by_cases q : k < 0
  · rw [if_pos q] at h
    cases h
  · rw [if_neg q] at h
    cases e : rs[k.toNat]? with
    | none => rw [e] at h; cases h
    | some o =>
      rw [e] at h
      have : o = some z := h
      have hl := (List.getElem?_eq_some_iff.mp e).1
      exact ⟨by omega, by omega, by rw [this]⟩
/-! ### a fence comes, a fence goes -/
theorem standF_app : ∀ (i : Nat) (rs : Rw) (z : Z3), standF i (rs ++ [some z]) = standF i rs ++ [(((i + rs.length : Nat) : Int), z)]
  | i, [], z => rfl
  | i, none :: r, z => by
    show standF (i + 1) (r ++ [some z]) = standF (i + 1) r ++ _
    rw [standF_app (i + 1) r z, List.length_cons, show i + 1 + r.length = i + (r.length + 1) by omega]
  | i, some y :: r, z => by
    show ((i : Int), y) :: standF (i + 1) (r ++ [some z]) = ((i : Int), y) :: standF (i + 1) r ++ _
    rw [standF_app (i + 1) r z, List.length_cons, show i + 1 + r.length = i + (r.length + 1) by omega]
    rfl
theorem kvOf_app (rs : Rw) (z : Z3) : kvOf (rs ++ [some z]) = kvOf rs ++ [((rs.length : Int), d3 z)] := by
  unfold kvOf stand
  rw [standF_app, List.map_append, Nat.zero_add]
  rfl
theorem standF_set : ∀ (i : Nat) (rs : Rw) (j : Nat), standF i (rs.set j none) = (standF i rs).filter fun x => decide (x.1 ≠ ((i + j : Nat) : Int))
  | i, [], j => rfl
  | i, none :: r, 0 => by
    show standF (i + 1) r = (standF (i + 1) r).filter _
    rw [List.filter_eq_self.mpr]
    intro x hx
    have := standF_ge (i + 1) r x hx
    have h : x.1 ≠ ((i + 0 : Nat) : Int) := by omega
    simpa using h
  | i, some z :: r, 0 => by
    show standF (i + 1) r = (((i : Int), z) :: standF (i + 1) r).filter _
    rw [List.filter_cons_of_neg (by simp), List.filter_eq_self.mpr]
    intro x hx
    have := standF_ge (i + 1) r x hx
    have h : x.1 ≠ ((i + 0 : Nat) : Int) := by omega
    simpa using h
  | i, none :: r, j + 1 => by
    show standF (i + 1) (r.set j none) = (standF (i + 1) r).filter _
    rw [standF_set (i + 1) r j, show i + 1 + j = i + (j + 1) by omega]
  | i, some z :: r, j + 1 => by
    show ((i : Int), z) :: standF (i + 1) (r.set j none) = (((i : Int), z) :: standF (i + 1) r).filter _
    rw [List.filter_cons_of_pos (by simp; omega), standF_set (i + 1) r j, show i + 1 + j = i + (j + 1) by omega]
theorem kvOf_set (rs : Rw) (k : Int) (h0 : 0 ≤ k) : kvOf (rs.set k.toNat none) = kvDrop (kvOf rs) k := by
  unfold kvOf kvDrop stand
  rw [standF_set, List.filter_map]
  congr 1
  refine List.filter_congr fun x _ => ?_
  show decide (x.1 ≠ ((0 + k.toNat : Nat) : Int)) = decide (x.1 ≠ k)
  rw [show ((0 + k.toNat : Nat) : Int) = k by omega]
theorem fncs_app (rs : Rw) (z : Z3) : fncs (rs ++ [some z]) = fncs rs ++ [z] := by
  unfold fncs
  rw [List.filterMap_append]
  rfl
theorem fncs_set_mem {rs : Rw} {j : Nat} {f : Z3} (h : f ∈ fncs (rs.set j none)) : f ∈ fncs rs := by
  unfold fncs at h ⊢
  rw [List.mem_filterMap] at h ⊢
  obtain ⟨o, ho, e⟩ := h
  rcases List.mem_or_eq_of_mem_set ho with q | q
  · exact ⟨o, q, e⟩
  · rw [q] at e
    cases e
theorem standF_setlen (i : Nat) (rs : Rw) (j : Nat) : (standF i (rs.set j none)).length ≤ (standF i rs).length := by
  rw [standF_set]
  exact List.length_filter_le _ _
theorem fncs_set_len (rs : Rw) (j : Nat) : (fncs (rs.set j none)).length ≤ (fncs rs).length := by
  rw [← stand_len, ← stand_len]
  exact standF_setlen 0 rs j
/-- what is kept of the rows all along -/
structure Rok (rs : Rw) : Prop where
  few : (fncs rs).length ≤ 16
  ok : ∀ f, f ∈ fncs rs → okF f = true
  len : rs.length ≤ 200
theorem rok_nil : Rok [] := ⟨by simp [fncs], by simp [fncs], by simp⟩
theorem rok_app {rs : Rw} {z : Z3} (h : Rok rs) (hf : (fncs rs).length < 16) (hz : okF z = true) (hl : rs.length < 200) : Rok (rs ++ [some z]) := by
  refine ⟨?_, fun f hm => ?_, by simp; omega⟩
  · rw [fncs_app]
    simp
    omega
  · rw [fncs_app] at hm
    rcases List.mem_append.mp hm with q | q
    · exact h.ok f q
    · rw [List.mem_singleton.mp q]
      exact hz
theorem rok_set {rs : Rw} (j : Nat) (h : Rok rs) : Rok (rs.set j none) :=
  ⟨Nat.le_trans (fncs_set_len rs j) h.few, fun f hm => h.ok f (fncs_set_mem hm), by rw [List.length_set]; exact h.len⟩
theorem row_ok {rs : Rw} {k : Nat} {z : Z3} (h : Rok rs) (e : rs[k]? = some (some z)) : okF z = true := by
  refine h.ok z ?_
  unfold fncs
  rw [List.mem_filterMap]
  exact ⟨some z, List.mem_of_getElem? e, rfl⟩
/-! ### as data -/
theorem sD_lay (x : Int × Z3) : (sD x).canLay0 = true := rfl
theorem sD_depth (x : Int × Z3) : (sD x).depth ≤ 60 := by
  have : (sD x).depth = 2 := rfl
  omega
theorem sD_shaped (x : Int × Z3) : SeqAt.shaped (sD x) = true := rfl
theorem shaped_sDs (xs : List (Int × Z3)) : SeqAt.shaped (.list (xs.map sD)) = true := shaped_list sD_lay sD_depth xs
theorem eqv_sD (x y : Int × Z3) : PyData.eqv (sD x) (sD y) = decide (x = y) := by
  obtain ⟨a, b⟩ := x
  obtain ⟨a', b'⟩ := y
  have h := eqv_d3 b b'
  show PyData.eqv (.tuple [.int a, d3 b]) (.tuple [.int a', d3 b']) = _
  have e : PyData.eqv (.tuple [.int a, d3 b]) (.tuple [.int a', d3 b']) = (PyData.eqv (.int a) (.int a') && (PyData.eqv (d3 b) (d3 b') && true)) := by
    simp only [PyData.eqv, PyData.eqvAll]
  rw [e, h, eqv_int]
  by_cases h1 : a = a' <;> by_cases h2 : b = b' <;> simp [h1, h2]
theorem eqv_sDs (xs ys : List (Int × Z3)) : PyData.eqv (.list (xs.map sD)) (.list (ys.map sD)) = decide (xs = ys) := by
  simp only [PyData.eqv]
  exact eqvAll_map eqv_sD xs ys
theorem noL_d3 (z : Z3) : noL (d3 z) = true := rfl
theorem noL_sD (x : Int × Z3) : noL (sD x) = true := rfl
theorem noLs_map {α : Type} {f : α → PyData} (h : ∀ x, noL (f x) = true) (xs : List α) : noLs (xs.map f) = true := noLs_of fun d hd => by
  obtain ⟨x, _, rfl⟩ := List.mem_map.mp hd
  exact h x
theorem noL_rwD (o : Option Z3) : noL (rwD o) = true := by cases o <;> rfl
theorem isN_rwD (o : Option Z3) : isN (rwD o) = o.isNone := by cases o <;> rfl
/-- a comprehension that numbers what stands -/
theorem stand_range (rs : Rw) : ∀ (i : Nat), (standF i rs) = ((List.range rs.length).filterMap fun k => ((rs[k]?).getD none).map fun z => (((i + k : Nat) : Int), z)) := by
  induction rs with
  | nil => intro i; rfl
  | cons o r ih =>
    intro i
    rw [List.length_cons, List.range_succ_eq_map, List.filterMap_cons, List.filterMap_map]
    have e : (List.filterMap ((fun k => (((o :: r)[k]?).getD none).map fun z => (((i + k : Nat) : Int), z)) ∘ Nat.succ) (List.range r.length)) = standF (i + 1) r := by
      rw [ih (i + 1)]
      congr 1
      funext k
      simp only [Function.comp, List.getElem?_cons_succ]
      rw [show i + 1 + k = i + k.succ by omega]
    cases o with
    | none =>
      show standF (i + 1) r = List.filterMap _ _
      rw [e]
    | some z =>
      show ((i : Int), z) :: standF (i + 1) r = ((i : Int), z) :: List.filterMap _ _
      rw [e]
theorem standF_at : ∀ (i : Nat) (rs : Rw) (x : Int × Z3), x ∈ standF i rs → rs[(x.1 - i).toNat]? = some (some x.2)
  | _, [], x, h => by simp [standF] at h
  | i, none :: r, x, h => by
    have h' : x ∈ standF (i + 1) r := h
    have g := standF_ge (i + 1) r x h'
    have := standF_at (i + 1) r x h'
    rw [show (x.1 - (i : Int)).toNat = (x.1 - ((i + 1 : Nat) : Int)).toNat + 1 by omega, List.getElem?_cons_succ]
    exact this
  | i, some z :: r, x, h => by
    rcases List.mem_cons.mp h with q | q
    · subst q
      rw [show (((i : Int), z).1 - (i : Int)).toNat = 0 by show ((i : Int) - i).toNat = 0; omega]
      rfl
    · have g := standF_ge (i + 1) r x q
      have := standF_at (i + 1) r x q
      rw [show (x.1 - (i : Int)).toNat = (x.1 - ((i + 1 : Nat) : Int)).toNat + 1 by omega, List.getElem?_cons_succ]
      exact this
theorem stand_get {rs : Rw} {x : Int × Z3} (h : x ∈ stand rs) : kvGet (kvOf rs) x.1 = some (d3 x.2) := by
  have g := standF_ge 0 rs x h
  have e := standF_at 0 rs x h
  rw [kvGet_of]
  unfold rowAt
  rw [if_neg (by omega)]
  rw [show (x.1 - ((0 : Nat) : Int)).toNat = x.1.toNat by omega] at e
  rw [e]
  rfl
theorem stand_fncs (rs : Rw) : (stand rs).map (fun x => d3 x.2) = (fncs rs).map d3 := by
  have := standF_snd 0 rs
  unfold stand
  rw [← this, List.map_map]
  rfl
/-! ### comprehensions -/
theorem comp_fm {α β : Type} {test : List Sl → Bool → Prop} {elt : List Sl → D → Prop} {env : List Sl} {i : Nat} (g : α → D) (f : α → Option β) (e : β → D) : ∀ xs : List α, (∀ x, x ∈ xs → test (env.set i (.v (g x))) (f x).isSome ∧ ∀ y, f x = some y → elt (env.set i (.v (g x))) (e y)) → Comp test elt env i (xs.map g) ((xs.filterMap f).map e)
  | [], _ => .nil
  | x :: xs, q => by
    obtain ⟨q1, q2⟩ := q x List.mem_cons_self
    have r := comp_fm g f e xs fun y hy => q y (List.mem_cons_of_mem _ hy)
    rw [List.map_cons, List.filterMap_cons]
    cases h : f x with
    | none =>
      rw [h] at q1
      exact .no q1 r
    | some y =>
      rw [h] at q1
      exact .yes q1 (q2 y h) r
theorem atI_rw {rs : Rw} {k : Nat} (h : k < rs.length) : atI (rs.map rwD) (k : Int) = some (rwD ((rs[k]?).getD none)) := by
  refine atI_nat ?_
  rw [List.getElem?_map, List.getElem?_eq_getElem h]
  rfl
end LL
namespace LL
open PySem L2 PD
/-! ### the text by places -/
def topS (i : Nat) : Stmt := PySem.Challenge.pw_landlines_k09_a_ground_kept.main.body.getD i (.Pass ⟨0, 0, 0, 0⟩)
abbrev s_is_whole : Stmt := topS 10
theorem sc_is_whole : FnScope ["thing"] ["thing"] (defScope s_is_whole) := ⟨rfl, rfl, rfl, by decide +kernel, rfl, by decide +kernel, by decide +kernel⟩
abbrev s_shared : Stmt := topS 11
theorem sc_shared : FnScope ["one", "other", "rest"] ["one", "other"] (defScope s_shared) := ⟨rfl, rfl, rfl, by decide +kernel, rfl, by decide +kernel, by decide +kernel⟩
abbrev s_spot_of : Stmt := topS 12
theorem sc_spot_of : FnScope ["x", "y", "by", "number", "part"] ["x", "y", "by"] (defScope s_spot_of) := ⟨rfl, rfl, rfl, by decide +kernel, rfl, by decide +kernel, by decide +kernel⟩
abbrev s_turn : Stmt := topS 13
theorem sc_turn : FnScope ["one", "two", "three", "total"] ["one", "two", "three"] (defScope s_turn) := ⟨rfl, rfl, rfl, by decide +kernel, rfl, by decide +kernel, by decide +kernel⟩
abbrev s_is_lower : Stmt := topS 14
theorem sc_is_lower : FnScope ["one", "other", "up"] ["one", "other"] (defScope s_is_lower) := ⟨rfl, rfl, rfl, by decide +kernel, rfl, by decide +kernel, by decide +kernel⟩
abbrev s_need_fence : Stmt := topS 20
theorem sc_need_fence : FnScope ["fence", "number"] ["fence"] (defScope s_need_fence) := ⟨rfl, rfl, rfl, by decide +kernel, rfl, by decide +kernel, by decide +kernel⟩
abbrev s_need_size : Stmt := topS 21
theorem sc_need_size : FnScope ["size"] ["size"] (defScope s_need_size) := ⟨rfl, rfl, rfl, by decide +kernel, rfl, by decide +kernel, by decide +kernel⟩
abbrev s_edges : Stmt := topS 22
theorem sc_edges : FnScope ["size"] ["size"] (defScope s_edges) := ⟨rfl, rfl, rfl, by decide +kernel, rfl, by decide +kernel, by decide +kernel⟩
abbrev s_with_edges : Stmt := topS 23
theorem sc_with_edges : FnScope ["size", "fences", "fence"] ["size", "fences"] (defScope s_with_edges) := ⟨rfl, rfl, rfl, by decide +kernel, rfl, by decide +kernel, by decide +kernel⟩
abbrev s_reach : Stmt := topS 24
theorem sc_reach : FnScope ["fence", "spot"] ["fence", "spot"] (defScope s_reach) := ⟨rfl, rfl, rfl, by decide +kernel, rfl, by decide +kernel, by decide +kernel⟩
abbrev s_cross : Stmt := topS 25
theorem sc_cross : FnScope ["one", "other"] ["one", "other"] (defScope s_cross) := ⟨rfl, rfl, rfl, by decide +kernel, rfl, by decide +kernel, by decide +kernel⟩
abbrev s_meeting : Stmt := topS 26
theorem sc_meeting : FnScope ["one", "other", "by"] ["one", "other"] (defScope s_meeting) := ⟨rfl, rfl, rfl, by decide +kernel, rfl, by decide +kernel, by decide +kernel⟩
abbrev s_keeps : Stmt := topS 28
theorem sc_keeps : FnScope ["rows", "spot", "fence"] ["rows", "spot"] (defScope s_keeps) := ⟨rfl, rfl, rfl, by decide +kernel, rfl, by decide +kernel, by decide +kernel⟩
abbrev s_meetings : Stmt := topS 29
theorem sc_meetings : FnScope ["rows", "found", "k", "other", "spot"] ["rows"] (defScope s_meetings) := ⟨rfl, rfl, rfl, by decide +kernel, rfl, by decide +kernel, by decide +kernel⟩
abbrev s_in_order : Stmt := topS 30
theorem sc_in_order : FnScope ["spots", "first", "spot", "found", "at"] ["spots"] (defScope s_in_order) := ⟨rfl, rfl, rfl, by decide +kernel, rfl, by decide +kernel, by decide +kernel⟩
abbrev s_corners : Stmt := topS 31
theorem sc_corners : FnScope ["size", "fences", "spots"] ["size", "fences"] (defScope s_corners) := ⟨rfl, rfl, rfl, by decide +kernel, rfl, by decide +kernel, by decide +kernel⟩
abbrev s_twice_area : Stmt := topS 34
theorem sc_twice_area : FnScope ["size", "fences", "spots", "many", "by", "k", "one", "two", "part"] ["size", "fences"] (defScope s_twice_area) := ⟨rfl, rfl, rfl, by decide +kernel, rfl, by decide +kernel, by decide +kernel⟩
abbrev s_L_cell_at : Stmt := topS 38
theorem sc_L_cell_at : FnScope ["_law_script", "_law_k"] ["_law_script", "_law_k"] (defScope s_L_cell_at) := ⟨rfl, rfl, rfl, by decide +kernel, rfl, by decide +kernel, by decide +kernel⟩
abbrev s_L_whole : Stmt := topS 39
theorem sc_L_whole : FnScope ["_law_thing"] ["_law_thing"] (defScope s_L_whole) := ⟨rfl, rfl, rfl, by decide +kernel, rfl, by decide +kernel, by decide +kernel⟩
abbrev s_L_size_by : Stmt := topS 40
theorem sc_L_size_by : FnScope ["_law_cell"] ["_law_cell"] (defScope s_L_size_by) := ⟨rfl, rfl, rfl, by decide +kernel, rfl, by decide +kernel, by decide +kernel⟩
abbrev s_L_fence_by : Stmt := topS 41
theorem sc_L_fence_by : FnScope ["_law_cell", "_law_size", "_law_far", "_law_a", "_law_b", "_law_more", "_law_c"] ["_law_cell", "_law_size"] (defScope s_L_fence_by) := ⟨rfl, rfl, rfl, by decide +kernel, rfl, by decide +kernel, by decide +kernel⟩
abbrev s_L_names : Stmt := topS 42
theorem sc_L_names : FnScope ["_law_e", "_law_found"] ["_law_e"] (defScope s_L_names) := ⟨rfl, rfl, rfl, by decide +kernel, rfl, by decide +kernel, by decide +kernel⟩
abbrev s_L_size_refused : Stmt := topS 43
theorem sc_L_size_refused : FnScope ["_law_size", "_law_e"] ["_law_size"] (defScope s_L_size_refused) := ⟨rfl, rfl, rfl, by decide +kernel, rfl, by decide +kernel, by decide +kernel⟩
abbrev s_L_put : Stmt := topS 44
theorem sc_L_put : FnScope ["_law_ground", "_law_rows", "_law_cell", "_law_size", "_law_fence", "_law_due", "_law_far", "_law_some", "_law_row", "_law_found", "_law_e"] ["_law_ground", "_law_rows", "_law_cell", "_law_size"] (defScope s_L_put) := ⟨rfl, rfl, rfl, by decide +kernel, rfl, by decide +kernel, by decide +kernel⟩
abbrev s_L_take : Stmt := topS 45
theorem sc_L_take : FnScope ["_law_ground", "_law_rows", "_law_cell", "_law_below", "_law_number", "_law_good", "_law_found", "_law_e"] ["_law_ground", "_law_rows", "_law_cell"] (defScope s_L_take) := ⟨rfl, rfl, rfl, by decide +kernel, rfl, by decide +kernel, by decide +kernel⟩
abbrev s_L_standing : Stmt := topS 46
theorem sc_L_standing : FnScope ["_law_ground", "_law_rows", "_law_due", "_law_k", "_law_found", "_law_row"] ["_law_ground", "_law_rows"] (defScope s_L_standing) := ⟨rfl, rfl, rfl, by decide +kernel, rfl, by decide +kernel, by decide +kernel⟩
abbrev s_L_ended : Stmt := topS 47
theorem sc_L_ended : FnScope ["_law_ground", "_law_rows", "_law_size", "_law_fences", "_law_row", "_law_found", "_law_again_here"] ["_law_ground", "_law_rows", "_law_size"] (defScope s_L_ended) := ⟨rfl, rfl, rfl, by decide +kernel, rfl, by decide +kernel, by decide +kernel⟩
abbrev s_L_again : Stmt := topS 48
theorem sc_L_again : FnScope ["_law_ground", "_law_rows", "_law_size", "_law_cell", "_law_there", "_law_k", "_law_number", "_law_fence", "_law_ahead", "_law_kept", "_law_far"] ["_law_ground", "_law_rows", "_law_size", "_law_cell"] (defScope s_L_again) := ⟨rfl, rfl, rfl, by decide +kernel, rfl, by decide +kernel, by decide +kernel⟩
abbrev s_law : Stmt := topS 49
theorem sc_law : FnScope ["_law_script", "_law_first", "_law_sizes", "_law_grounds", "_law_rows", "_law_many", "_law_cells", "_law_k", "_law_cell", "_law_at", "_law_more", "_law_good", "_law_told", "_law_copy"] ["_law_script"] (defScope s_law) := ⟨rfl, rfl, rfl, by decide +kernel, rfl, by decide +kernel, by decide +kernel⟩
abbrev s_Ground_init : Stmt := inClass (topS 36) 0
theorem sc_Ground_init : FnScope ["self", "size"] ["self", "size"] (defScope s_Ground_init) := ⟨rfl, rfl, rfl, by decide +kernel, rfl, by decide +kernel, by decide +kernel⟩
abbrev s_Ground_put : Stmt := inClass (topS 36) 1
theorem sc_Ground_put : FnScope ["self", "fence"] ["self", "fence"] (defScope s_Ground_put) := ⟨rfl, rfl, rfl, by decide +kernel, rfl, by decide +kernel, by decide +kernel⟩
abbrev s_Ground_take : Stmt := inClass (topS 36) 2
theorem sc_Ground_take : FnScope ["self", "number"] ["self", "number"] (defScope s_Ground_take) := ⟨rfl, rfl, rfl, by decide +kernel, rfl, by decide +kernel, by decide +kernel⟩
abbrev s_Ground_standing : Stmt := inClass (topS 36) 3
theorem sc_Ground_standing : FnScope ["self", "number"] ["self"] (defScope s_Ground_standing) := ⟨rfl, rfl, rfl, by decide +kernel, rfl, by decide +kernel, by decide +kernel⟩
abbrev s_Ground_stretch : Stmt := inClass (topS 36) 4
theorem sc_Ground_stretch : FnScope ["self", "row"] ["self"] (defScope s_Ground_stretch) := ⟨rfl, rfl, rfl, by decide +kernel, rfl, by decide +kernel, by decide +kernel⟩
abbrev s_Ground_corners : Stmt := inClass (topS 36) 5
theorem sc_Ground_corners : FnScope ["self"] ["self"] (defScope s_Ground_corners) := ⟨rfl, rfl, rfl, by decide +kernel, rfl, by decide +kernel, by decide +kernel⟩
abbrev s_Ground_area : Stmt := inClass (topS 36) 6
theorem sc_Ground_area : FnScope ["self"] ["self"] (defScope s_Ground_area) := ⟨rfl, rfl, rfl, by decide +kernel, rfl, by decide +kernel, by decide +kernel⟩
/-- the class Ground, as the top has made it -/
structure TGround (K : PySem.W.Frag) (C : Addr) : Prop where
  cl : GCls K C
  init : ∃ (f : Addr) (fd : FuncData), Fun K "__init__" "Ground.__init__" s_Ground_init f fd ∧ Mk K C f
  m_put : ∃ (f : Addr) (fd : FuncData), Fun K "put" "Ground.put" s_Ground_put f fd ∧ Meth K C "put" f
  m_take : ∃ (f : Addr) (fd : FuncData), Fun K "take" "Ground.take" s_Ground_take f fd ∧ Meth K C "take" f
  m_standing : ∃ (f : Addr) (fd : FuncData), Fun K "standing" "Ground.standing" s_Ground_standing f fd ∧ Meth K C "standing" f
  m_stretch : ∃ (f : Addr) (fd : FuncData), Fun K "stretch" "Ground.stretch" s_Ground_stretch f fd ∧ Meth K C "stretch" f
  m_corners : ∃ (f : Addr) (fd : FuncData), Fun K "corners" "Ground.corners" s_Ground_corners f fd ∧ Meth K C "corners" f
  m_area : ∃ (f : Addr) (fd : FuncData), Fun K "area" "Ground.area" s_Ground_area f fd ∧ Meth K C "area" f
/-- what the top has left -/
structure Top (K : PySem.W.Frag) (mg : Str → Option Value) (c : Ee → Addr) : Prop where
  es : Es K mg c
  ei : Ei K c
  f_is_whole : FunT K mg "is_whole" s_is_whole
  f_shared : FunT K mg "shared" s_shared
  f_spot_of : FunT K mg "spot_of" s_spot_of
  f_turn : FunT K mg "turn" s_turn
  f_is_lower : FunT K mg "is_lower" s_is_lower
  f_need_fence : FunT K mg "need_fence" s_need_fence
  f_need_size : FunT K mg "need_size" s_need_size
  f_edges : FunT K mg "edges" s_edges
  f_with_edges : FunT K mg "with_edges" s_with_edges
  f_reach : FunT K mg "reach" s_reach
  f_cross : FunT K mg "cross" s_cross
  f_meeting : FunT K mg "meeting" s_meeting
  f_keeps : FunT K mg "keeps" s_keeps
  f_meetings : FunT K mg "meetings" s_meetings
  f_in_order : FunT K mg "in_order" s_in_order
  f_corners : FunT K mg "corners" s_corners
  f_twice_area : FunT K mg "twice_area" s_twice_area
  f_L_cell_at : FunT K mg "_law_cell_at" s_L_cell_at
  f_L_whole : FunT K mg "_law_whole" s_L_whole
  f_L_size_by : FunT K mg "_law_size_by" s_L_size_by
  f_L_fence_by : FunT K mg "_law_fence_by" s_L_fence_by
  f_L_names : FunT K mg "_law_names" s_L_names
  f_L_size_refused : FunT K mg "_law_size_refused" s_L_size_refused
  f_L_put : FunT K mg "_law_put" s_L_put
  f_L_take : FunT K mg "_law_take" s_L_take
  f_L_standing : FunT K mg "_law_standing" s_L_standing
  f_L_ended : FunT K mg "_law_ended" s_L_ended
  f_L_again : FunT K mg "_law_again" s_L_again
  f_law : FunT K mg "law" s_law
  z_isinstance : mg "isinstance" = none
  z_int : mg "int" = none
  z_bool : mg "bool" = none
  z_abs : mg "abs" = none
  z_tuple : mg "tuple" = none
  z_len : mg "len" = none
  z_range : mg "range" = none
  z_list : mg "list" = none
  z_sorted : mg "sorted" = none
  z_max : mg "max" = none
  z_min : mg "min" = none
  z_ValueError : mg "ValueError" = none
  g_MOST_SIZE : ∃ t, mg "MOST_SIZE" = some (.int 1000 t)
  g_MOST_STEP : ∃ t, mg "MOST_STEP" = some (.int 1000 t)
  g_MOST_SIDE : ∃ t, mg "MOST_SIDE" = some (.int 1000000 t)
  g_MOST_FENCES : ∃ t, mg "MOST_FENCES" = some (.int 16 t)
  al_corners_land : ∃ f, mg "corners" = some (.ref f) ∧ mg "corners_land" = some (.ref f)
  o_Ground : ∃ C, mg "Ground" = some (.ref C)
  t_Ground : ∀ C, mg "Ground" = some (.ref C) → TGround K C
theorem top_mk {K : PySem.W.Frag} {mg : Str → Option Value} {a0 a1 a2 a3 a4 a5 a6 a7 cGround alcorners_land : Addr}
    (e0 : Ec K mg "LandError" a0)
    (e1 : Ec K mg "BadSize" a1)
    (e2 : Ec K mg "BadFence" a2)
    (e3 : Ec K mg "TooMany" a3)
    (e4 : Ec K mg "BadSpot" a4)
    (e5 : Ec K mg "BadWay" a5)
    (e6 : Ec K mg "NoLand" a6)
    (e7 : Ec K mg "NoFence" a7)
    (x1 : Ex1 K a1 a0)
    (x2 : Ex1 K a2 a0)
    (x3 : Ex1 K a3 a0)
    (x4 : Ex1 K a4 a0)
    (x5 : Ex1 K a5 a0)
    (x6 : Ex1 K a6 a0)
    (x7 : Ex1 K a7 a0)
    (hd0 : PySem.W.hasDictIn K a0 = true)
    (hn : PySem.W.specialIn K (.builtin "object.__class__") "__get__" = some (some (.builtin "getset_descriptor.__get__")))
    (ht : PySem.W.takesIn K (.builtin "object.__class__") = some true)
    (p12 : PySem.W.subIn K (.ref a1) (.ref a2) = some false)
    (p13 : PySem.W.subIn K (.ref a1) (.ref a3) = some false)
    (p14 : PySem.W.subIn K (.ref a1) (.ref a4) = some false)
    (p15 : PySem.W.subIn K (.ref a1) (.ref a5) = some false)
    (p16 : PySem.W.subIn K (.ref a1) (.ref a6) = some false)
    (p17 : PySem.W.subIn K (.ref a1) (.ref a7) = some false)
    (p21 : PySem.W.subIn K (.ref a2) (.ref a1) = some false)
    (p23 : PySem.W.subIn K (.ref a2) (.ref a3) = some false)
    (p24 : PySem.W.subIn K (.ref a2) (.ref a4) = some false)
    (p25 : PySem.W.subIn K (.ref a2) (.ref a5) = some false)
    (p26 : PySem.W.subIn K (.ref a2) (.ref a6) = some false)
    (p27 : PySem.W.subIn K (.ref a2) (.ref a7) = some false)
    (p31 : PySem.W.subIn K (.ref a3) (.ref a1) = some false)
    (p32 : PySem.W.subIn K (.ref a3) (.ref a2) = some false)
    (p34 : PySem.W.subIn K (.ref a3) (.ref a4) = some false)
    (p35 : PySem.W.subIn K (.ref a3) (.ref a5) = some false)
    (p36 : PySem.W.subIn K (.ref a3) (.ref a6) = some false)
    (p37 : PySem.W.subIn K (.ref a3) (.ref a7) = some false)
    (p41 : PySem.W.subIn K (.ref a4) (.ref a1) = some false)
    (p42 : PySem.W.subIn K (.ref a4) (.ref a2) = some false)
    (p43 : PySem.W.subIn K (.ref a4) (.ref a3) = some false)
    (p45 : PySem.W.subIn K (.ref a4) (.ref a5) = some false)
    (p46 : PySem.W.subIn K (.ref a4) (.ref a6) = some false)
    (p47 : PySem.W.subIn K (.ref a4) (.ref a7) = some false)
    (p51 : PySem.W.subIn K (.ref a5) (.ref a1) = some false)
    (p52 : PySem.W.subIn K (.ref a5) (.ref a2) = some false)
    (p53 : PySem.W.subIn K (.ref a5) (.ref a3) = some false)
    (p54 : PySem.W.subIn K (.ref a5) (.ref a4) = some false)
    (p56 : PySem.W.subIn K (.ref a5) (.ref a6) = some false)
    (p57 : PySem.W.subIn K (.ref a5) (.ref a7) = some false)
    (p61 : PySem.W.subIn K (.ref a6) (.ref a1) = some false)
    (p62 : PySem.W.subIn K (.ref a6) (.ref a2) = some false)
    (p63 : PySem.W.subIn K (.ref a6) (.ref a3) = some false)
    (p64 : PySem.W.subIn K (.ref a6) (.ref a4) = some false)
    (p65 : PySem.W.subIn K (.ref a6) (.ref a5) = some false)
    (p67 : PySem.W.subIn K (.ref a6) (.ref a7) = some false)
    (p71 : PySem.W.subIn K (.ref a7) (.ref a1) = some false)
    (p72 : PySem.W.subIn K (.ref a7) (.ref a2) = some false)
    (p73 : PySem.W.subIn K (.ref a7) (.ref a3) = some false)
    (p74 : PySem.W.subIn K (.ref a7) (.ref a4) = some false)
    (p75 : PySem.W.subIn K (.ref a7) (.ref a5) = some false)
    (p76 : PySem.W.subIn K (.ref a7) (.ref a6) = some false)
    (f_is_whole : FunT K mg "is_whole" s_is_whole)
    (f_shared : FunT K mg "shared" s_shared)
    (f_spot_of : FunT K mg "spot_of" s_spot_of)
    (f_turn : FunT K mg "turn" s_turn)
    (f_is_lower : FunT K mg "is_lower" s_is_lower)
    (f_need_fence : FunT K mg "need_fence" s_need_fence)
    (f_need_size : FunT K mg "need_size" s_need_size)
    (f_edges : FunT K mg "edges" s_edges)
    (f_with_edges : FunT K mg "with_edges" s_with_edges)
    (f_reach : FunT K mg "reach" s_reach)
    (f_cross : FunT K mg "cross" s_cross)
    (f_meeting : FunT K mg "meeting" s_meeting)
    (f_keeps : FunT K mg "keeps" s_keeps)
    (f_meetings : FunT K mg "meetings" s_meetings)
    (f_in_order : FunT K mg "in_order" s_in_order)
    (f_corners : FunT K mg "corners" s_corners)
    (f_twice_area : FunT K mg "twice_area" s_twice_area)
    (f_L_cell_at : FunT K mg "_law_cell_at" s_L_cell_at)
    (f_L_whole : FunT K mg "_law_whole" s_L_whole)
    (f_L_size_by : FunT K mg "_law_size_by" s_L_size_by)
    (f_L_fence_by : FunT K mg "_law_fence_by" s_L_fence_by)
    (f_L_names : FunT K mg "_law_names" s_L_names)
    (f_L_size_refused : FunT K mg "_law_size_refused" s_L_size_refused)
    (f_L_put : FunT K mg "_law_put" s_L_put)
    (f_L_take : FunT K mg "_law_take" s_L_take)
    (f_L_standing : FunT K mg "_law_standing" s_L_standing)
    (f_L_ended : FunT K mg "_law_ended" s_L_ended)
    (f_L_again : FunT K mg "_law_again" s_L_again)
    (f_law : FunT K mg "law" s_law)
    (z_isinstance : mg "isinstance" = none)
    (z_int : mg "int" = none)
    (z_bool : mg "bool" = none)
    (z_abs : mg "abs" = none)
    (z_tuple : mg "tuple" = none)
    (z_len : mg "len" = none)
    (z_range : mg "range" = none)
    (z_list : mg "list" = none)
    (z_sorted : mg "sorted" = none)
    (z_max : mg "max" = none)
    (z_min : mg "min" = none)
    (z_ValueError : mg "ValueError" = none)
    (g_MOST_SIZE : ∃ t, mg "MOST_SIZE" = some (.int 1000 t))
    (g_MOST_STEP : ∃ t, mg "MOST_STEP" = some (.int 1000 t))
    (g_MOST_SIDE : ∃ t, mg "MOST_SIDE" = some (.int 1000000 t))
    (g_MOST_FENCES : ∃ t, mg "MOST_FENCES" = some (.int 16 t))
    (al1corners_land : mg "corners" = some (.ref alcorners_land))
    (al2corners_land : mg "corners_land" = some (.ref alcorners_land))
    (oGround : mg "Ground" = some (.ref cGround))
    (oGroundpg : PySem.W.plainGet K cGround Str.empty = true)
    (oGroundhd : PySem.W.hasDictIn K cGround = true)
    (oGroundpo : PySem.W.plainOver K cGround = true)
    (oGroundsa : PySem.W.findIn K (.ref cGround) "__setattr__" = some (some (.builtin "object.__setattr__")))
    (oGroundmk : PySem.W.makesIn K cGround = true)
    (oGroundkp : PySem.W.keepIn K (.ref cGround) = true)
    (oGroundnsize : PySem.W.findIn K (.ref cGround) "size" = some none)
    (oGroundnkept : PySem.W.findIn K (.ref cGround) "kept" = some none)
    (oGroundncame : PySem.W.findIn K (.ref cGround) "came" = some none)
    (oGroundminit : MethT K cGround "__init__" "Ground.__init__" s_Ground_init)
    (oGroundmput : MethT K cGround "put" "Ground.put" s_Ground_put)
    (oGroundmtake : MethT K cGround "take" "Ground.take" s_Ground_take)
    (oGroundmstanding : MethT K cGround "standing" "Ground.standing" s_Ground_standing)
    (oGroundmstretch : MethT K cGround "stretch" "Ground.stretch" s_Ground_stretch)
    (oGroundmcorners : MethT K cGround "corners" "Ground.corners" s_Ground_corners)
    (oGroundmarea : MethT K cGround "area" "Ground.area" s_Ground_area)
    : ∃ c, Top K mg c := by
  refine ⟨fun e => match e with  | .land => a0 | .size => a1 | .fence => a2 | .many => a3 | .spot => a4 | .way => a5 | .noland => a6 | .nofence => a7, ?_⟩
  refine { es := ⟨e0, e1, e2, e3, e4, e5, e6, e7⟩, ei := ?ei, f_is_whole := f_is_whole, f_shared := f_shared, f_spot_of := f_spot_of, f_turn := f_turn, f_is_lower := f_is_lower, f_need_fence := f_need_fence, f_need_size := f_need_size, f_edges := f_edges, f_with_edges := f_with_edges, f_reach := f_reach, f_cross := f_cross, f_meeting := f_meeting, f_keeps := f_keeps, f_meetings := f_meetings, f_in_order := f_in_order, f_corners := f_corners, f_twice_area := f_twice_area, f_L_cell_at := f_L_cell_at, f_L_whole := f_L_whole, f_L_size_by := f_L_size_by, f_L_fence_by := f_L_fence_by, f_L_names := f_L_names, f_L_size_refused := f_L_size_refused, f_L_put := f_L_put, f_L_take := f_L_take, f_L_standing := f_L_standing, f_L_ended := f_L_ended, f_L_again := f_L_again, f_law := f_law, z_isinstance := z_isinstance, z_int := z_int, z_bool := z_bool, z_abs := z_abs, z_tuple := z_tuple, z_len := z_len, z_range := z_range, z_list := z_list, z_sorted := z_sorted, z_max := z_max, z_min := z_min, z_ValueError := z_ValueError, g_MOST_SIZE := g_MOST_SIZE, g_MOST_STEP := g_MOST_STEP, g_MOST_SIDE := g_MOST_SIDE, g_MOST_FENCES := g_MOST_FENCES, al_corners_land := ⟨_, al1corners_land, al2corners_land⟩, o_Ground := ⟨_, oGround⟩, t_Ground := ?tGround }
  refine ⟨fun e he => ?_, fun e e' he he' => ?_, fun e he => ?_, fun e he => ?_⟩
  · cases e with
    | land => exact absurd rfl he
    | size => exact excC_mk x1 e1.b hn ht
    | fence => exact excC_mk x2 e2.b hn ht
    | many => exact excC_mk x3 e3.b hn ht
    | spot => exact excC_mk x4 e4.b hn ht
    | way => exact excC_mk x5 e5.b hn ht
    | noland => exact excC_mk x6 e6.b hn ht
    | nofence => exact excC_mk x7 e7.b hn ht
  · cases e with
    | land => exact absurd rfl he
    | size =>
      cases e' with
      | land => exact absurd rfl he'
      | size => exact kit_self
      | fence => exact kit_ne x2.hd e2.t x2.ss p12
      | many => exact kit_ne x3.hd e3.t x3.ss p13
      | spot => exact kit_ne x4.hd e4.t x4.ss p14
      | way => exact kit_ne x5.hd e5.t x5.ss p15
      | noland => exact kit_ne x6.hd e6.t x6.ss p16
      | nofence => exact kit_ne x7.hd e7.t x7.ss p17
    | fence =>
      cases e' with
      | land => exact absurd rfl he'
      | size => exact kit_ne x1.hd e1.t x1.ss p21
      | fence => exact kit_self
      | many => exact kit_ne x3.hd e3.t x3.ss p23
      | spot => exact kit_ne x4.hd e4.t x4.ss p24
      | way => exact kit_ne x5.hd e5.t x5.ss p25
      | noland => exact kit_ne x6.hd e6.t x6.ss p26
      | nofence => exact kit_ne x7.hd e7.t x7.ss p27
    | many =>
      cases e' with
      | land => exact absurd rfl he'
      | size => exact kit_ne x1.hd e1.t x1.ss p31
      | fence => exact kit_ne x2.hd e2.t x2.ss p32
      | many => exact kit_self
      | spot => exact kit_ne x4.hd e4.t x4.ss p34
      | way => exact kit_ne x5.hd e5.t x5.ss p35
      | noland => exact kit_ne x6.hd e6.t x6.ss p36
      | nofence => exact kit_ne x7.hd e7.t x7.ss p37
    | spot =>
      cases e' with
      | land => exact absurd rfl he'
      | size => exact kit_ne x1.hd e1.t x1.ss p41
      | fence => exact kit_ne x2.hd e2.t x2.ss p42
      | many => exact kit_ne x3.hd e3.t x3.ss p43
      | spot => exact kit_self
      | way => exact kit_ne x5.hd e5.t x5.ss p45
      | noland => exact kit_ne x6.hd e6.t x6.ss p46
      | nofence => exact kit_ne x7.hd e7.t x7.ss p47
    | way =>
      cases e' with
      | land => exact absurd rfl he'
      | size => exact kit_ne x1.hd e1.t x1.ss p51
      | fence => exact kit_ne x2.hd e2.t x2.ss p52
      | many => exact kit_ne x3.hd e3.t x3.ss p53
      | spot => exact kit_ne x4.hd e4.t x4.ss p54
      | way => exact kit_self
      | noland => exact kit_ne x6.hd e6.t x6.ss p56
      | nofence => exact kit_ne x7.hd e7.t x7.ss p57
    | noland =>
      cases e' with
      | land => exact absurd rfl he'
      | size => exact kit_ne x1.hd e1.t x1.ss p61
      | fence => exact kit_ne x2.hd e2.t x2.ss p62
      | many => exact kit_ne x3.hd e3.t x3.ss p63
      | spot => exact kit_ne x4.hd e4.t x4.ss p64
      | way => exact kit_ne x5.hd e5.t x5.ss p65
      | noland => exact kit_self
      | nofence => exact kit_ne x7.hd e7.t x7.ss p67
    | nofence =>
      cases e' with
      | land => exact absurd rfl he'
      | size => exact kit_ne x1.hd e1.t x1.ss p71
      | fence => exact kit_ne x2.hd e2.t x2.ss p72
      | many => exact kit_ne x3.hd e3.t x3.ss p73
      | spot => exact kit_ne x4.hd e4.t x4.ss p74
      | way => exact kit_ne x5.hd e5.t x5.ss p75
      | noland => exact kit_ne x6.hd e6.t x6.ss p76
      | nofence => exact kit_self
  · cases e with
    | land => exact absurd rfl he
    | size => exact kit_typ (by decide +kernel) x1.sv
    | fence => exact kit_typ (by decide +kernel) x2.sv
    | many => exact kit_typ (by decide +kernel) x3.sv
    | spot => exact kit_typ (by decide +kernel) x4.sv
    | way => exact kit_typ (by decide +kernel) x5.sv
    | noland => exact kit_typ (by decide +kernel) x6.sv
    | nofence => exact kit_typ (by decide +kernel) x7.sv
  · cases e with
    | land => exact absurd rfl he
    | size => exact PySem.W.exm_ref e0.b hd0 e0.t x1.sl
    | fence => exact PySem.W.exm_ref e0.b hd0 e0.t x2.sl
    | many => exact PySem.W.exm_ref e0.b hd0 e0.t x3.sl
    | spot => exact PySem.W.exm_ref e0.b hd0 e0.t x4.sl
    | way => exact PySem.W.exm_ref e0.b hd0 e0.t x5.sl
    | noland => exact PySem.W.exm_ref e0.b hd0 e0.t x6.sl
    | nofence => exact PySem.W.exm_ref e0.b hd0 e0.t x7.sl
  case tGround =>
    intro C hC
    cases oGround.symm.trans hC
    exact ⟨⟨⟨oGroundpg, oGroundhd, oGroundpo, oGroundsa⟩, oGroundnsize, oGroundnkept, oGroundncame⟩, mkT_of oGroundminit oGroundmk oGroundkp, oGroundmput, oGroundmtake, oGroundmstanding, oGroundmstretch, oGroundmcorners, oGroundmarea⟩
section
variable {P : Program} {w : World} {K : PySem.W.Frag} {mg : Str → Option Value} {base : Heap} {c : Ee → Addr}
theorem d_is_whole (T : Top K mg c) : Dn P w K mg base 1 "is_whole" (fun as r => ∃ d, as = [d] ∧ r = .ok (.bool (isWhole d))) := by
  obtain ⟨f, fd, F, hm⟩ := T.f_is_whole.ex
  refine dn_def F sc_is_whole hm (F.binds fun _ _ _ _ _ _ us hl => match us, hl with | [_], _ => rfl) ?_ ?_
  · rintro as r ⟨d, rfl, _⟩
    rfl
  · rintro cdv A outer s H E C as r ⟨d, rfl, rfl⟩
    refine ⟨_, .ok, bss_one (bs_ret ?_)⟩
    exact BE.to (be_and (be_isi T.z_isinstance T.z_int PyProof.Rows.boot_int (be_v 0 rfl).r (kit_int d)) (fun _ => be_one (be_not (be_isi T.z_isinstance T.z_bool PyProof.Rows.boot_bool (be_v 0 rfl).r (kit_bool d))))) (by rw [whole_eq])
theorem d_shared (T : Top K mg c) : Dn P w K mg base 1 "shared" (fun as r => ∃ a b : Int, as = [.int a, .int b] ∧ 0 ≤ a ∧ 0 ≤ b ∧ r = .ok (.int (gcdN a b))) := by
  obtain ⟨f, fd, F, hm⟩ := T.f_shared.ex
  refine dn_def F sc_shared hm (F.binds fun _ _ _ _ _ _ us hl => match us, hl with | [_, _], _ => rfl) ?_ ?_
  · rintro as r ⟨a, b, rfl, _⟩
    rfl
  · rintro cdv A outer s H E C as r ⟨a, b, rfl, ha, hb, rfl⟩
    refine ⟨_, .ok, bss_cons (bs_whileE C.hp (gcd_loop ?_ ?_ _ a b .no ha hb (Nat.le_refl _))) (bss_one (bs_ret (be_v 0 rfl)))⟩
    · intro a b r
      exact bt_neI (be_v 1 rfl) be_int
    · intro a b r hb
      exact bss_cons (bs_set 2 C.nd (be_mod (be_v 0 rfl) (be_v 1 rfl) hb)) (bss_cons (bs_set 0 C.nd (be_v 1 rfl)) (bss_one (bs_set 1 C.nd (be_v 2 rfl))))
theorem d_spot_of (T : Top K mg c) : Dn P w K mg base 2 "spot_of" (fun as r => ∃ dx dy db, as = [dx, dy, db] ∧ ((∃ x y b : Int, dx = .int x ∧ dy = .int y ∧ db = .int b ∧ b ≠ 0 ∧ b.natAbs < 2 ^ 8000 ∧ r = .ok (d3 (spotOf x y b))) ∨
    (¬ (isWhole dx = true ∧ isWhole dy = true ∧ isWhole db = true ∧ db ≠ .int 0) ∧ r = .er (c .spot)))) := by
  obtain ⟨f, fd, F, hm⟩ := T.f_spot_of.ex
  refine dn_def F sc_spot_of hm (F.binds fun _ _ _ _ _ _ us hl => match us, hl with | [_, _, _], _ => rfl) ?_ ?_
  · rintro as r ⟨dx, dy, db, rfl, _⟩
    rfl
  · rintro cdv A outer s H E C as r ⟨dx, dy, db, rfl, h⟩
    have G1 := d_is_whole (P := P) (w := w) (base := base) T
    have G2 := d_shared (P := P) (w := w) (base := base) T
    rcases h with ⟨x, y, b, rfl, rfl, rfl, hb0, hbb, rfl⟩ | ⟨hn, rfl⟩
    · refine ⟨.rt (.ok _), .ok, ?_⟩
      refine bss_cons (bs_for (out := .nx [.v (.int x), .v (.int y), .v (.int b), .no, .no]) 3 C.hp C.calm C.nd (bi_tup (be_tup (ba_cons (be_v 0 rfl) (ba_cons (be_v 1 rfl) (ba_cons (be_v 2 rfl) ba_nil))))) (loop_all trivial _ ?lp)) ?_
      case lp =>
        intro d hd
        refine BSs.fg 3 (env1 := [.v (.int x), .v (.int y), .v (.int b), .v d, .no]) (bss_one (bs_ifF (bt_not (bt_val (be_call G1 C.hr (by decide) (ba_cons (be_v 3 rfl) ba_nil) ⟨_, rfl, rfl⟩))) ?_ bss_nil))
        simp at hd
        rcases hd with rfl | rfl | rfl <;> rfl
      refine bss_cons (bs_ifF (bt_eqI (be_v 2 rfl) be_int) (by simpa using hb0) bss_nil) ?_
      refine bss_cons (bs_set 4 C.nd (be_call G2 C.hr (by decide) (ba_cons (be_abs T.z_abs (be_v 0 rfl)) (ba_cons (be_call G2 C.hr (by decide) (ba_cons (be_abs T.z_abs (be_v 1 rfl)) (ba_cons (be_abs T.z_abs (be_v 2 rfl)) ba_nil)) ⟨_, _, rfl, by omega, by omega, rfl⟩) ba_nil)) ⟨_, _, rfl, by omega, gcdN_nonneg _ _, rfl⟩)) ?_
      obtain ⟨hp0, hpl⟩ := spot_part (x := x) (y := y) hb0 hbb
      by_cases hneg : b < 0
      · refine bss_cons (bs_ifT (bt_lt (be_v 2 rfl) be_int) (by simpa using hneg) (bss_one (bs_set 4 C.nd (be_neg (be_v 4 rfl))))) ?_
        have hd : ∀ i : Int, CDivA i (-gcdN x.natAbs (gcdN y.natAbs b.natAbs)) := fun i => ⟨by omega, by rw [Int.natAbs_neg]; exact hpl⟩
        refine bss_one (bs_ret (BE.to (be_tup (ba_cons (be_fdiv (be_v 0 rfl) (be_v 4 rfl) (hd _)) (ba_cons (be_fdiv (be_v 1 rfl) (be_v 4 rfl) (hd _)) (ba_cons (be_fdiv (be_v 2 rfl) (be_v 4 rfl) (hd _)) ba_nil)))) ?_))
        unfold d3 spotOf
        simp only [hneg, if_true]
      · refine bss_cons (bs_ifF (bt_lt (be_v 2 rfl) be_int) (by simpa using hneg) bss_nil) ?_
        have hd : ∀ i : Int, CDivA i (gcdN x.natAbs (gcdN y.natAbs b.natAbs)) := fun i => ⟨hp0, hpl⟩
        refine bss_one (bs_ret (BE.to (be_tup (ba_cons (be_fdiv (be_v 0 rfl) (be_v 4 rfl) (hd _)) (ba_cons (be_fdiv (be_v 1 rfl) (be_v 4 rfl) (hd _)) (ba_cons (be_fdiv (be_v 2 rfl) (be_v 4 rfl) (hd _)) ba_nil)))) ?_))
        unfold d3 spotOf
        simp only [hneg, if_false]
    · by_cases hw : isWhole dx = true ∧ isWhole dy = true ∧ isWhole db = true
      · obtain ⟨h1, h2, h3⟩ := hw
        have hz : db = .int 0 := Classical.byContradiction fun q => hn ⟨h1, h2, h3, q⟩
        subst hz
        refine ⟨.er _ [.v dx, .v dy, .v (.int 0), .no, .no], .er, ?_⟩
        refine bss_cons (bs_for (out := .nx [.v dx, .v dy, .v (.int 0), .no, .no]) 3 C.hp C.calm C.nd (bi_tup (be_tup (ba_cons (be_v 0 rfl) (ba_cons (be_v 1 rfl) (ba_cons (be_v 2 rfl) ba_nil))))) (loop_all trivial _ ?lp)) ?_
        case lp =>
          intro d hd
          refine BSs.fg 3 (env1 := [.v dx, .v dy, .v (.int 0), .v d, .no]) (bss_one (bs_ifF (bt_not (bt_val (be_call G1 C.hr (by decide) (ba_cons (be_v 3 rfl) ba_nil) ⟨_, rfl, rfl⟩))) ?_ bss_nil))
          simp at hd
          rcases hd with rfl | rfl | rfl
          · rw [h1]; rfl
          · rw [h2]; rfl
          · rfl
        exact bss_er (bs_ifT (bt_eqI (be_v 2 rfl) be_int) rfl (bss_one (bs_raise T.es.spot C.calm C.tk)))
      · have ⟨ds1, d0, ds2, hs, hg, hb⟩ : ∃ ds1 d0 ds2, [dx, dy, db] = ds1 ++ d0 :: ds2 ∧ (∀ d, d ∈ ds1 → isWhole d = true) ∧ isWhole d0 = false := by
          by_cases h1 : isWhole dx = true
          · by_cases h2 : isWhole dy = true
            · refine ⟨[dx, dy], db, [], rfl, by simp [h1, h2], ?_⟩
              cases h3 : isWhole db with
              | false => rfl
              | true => exact absurd ⟨h1, h2, h3⟩ hw
            · exact ⟨[dx], dy, [db], rfl, by simp [h1], by simpa using h2⟩
          · exact ⟨[], dx, [dy, db], rfl, by simp, by simpa using h1⟩
        refine ⟨.er _ [.v dx, .v dy, .v db, .v d0, .no], .er, ?_⟩
        refine bss_er (env1 := [.v dx, .v dy, .v db, .v d0, .no]) (bs_for (out := .er (c .spot) [.v dx, .v dy, .v db, .v d0, .no]) 3 C.hp C.calm C.nd (bi_tup (be_tup (ba_cons (be_v 0 rfl) (ba_cons (be_v 1 rfl) (ba_cons (be_v 2 rfl) ba_nil))))) ?lp)
        refine loop_til' (P := fun _ => True) (env := [.v dx, .v dy, .v db, .no, .no]) ds1 hs trivial (fun d hd => ?_) (.er ?_)
        · exact BSs.fg 3 (env1 := [.v dx, .v dy, .v db, .v d, .no]) (bss_one (bs_ifF (bt_not (bt_val (be_call G1 C.hr (by decide) (ba_cons (be_v 3 rfl) ba_nil) ⟨_, rfl, rfl⟩))) (by rw [hg d hd]; rfl) bss_nil))
        · exact bss_one (bs_ifT (bt_not (bt_val (be_call G1 C.hr (by decide) (ba_cons (be_v 3 rfl) ba_nil) ⟨_, rfl, rfl⟩))) (by rw [hb]; rfl) (bss_one (bs_raise T.es.spot C.calm C.tk)))
theorem d_turn (T : Top K mg c) : Dn P w K mg base 1 "turn" (fun as r => ∃ o t e : Z3, as = [d3 o, d3 t, d3 e] ∧ Bz 300 o ∧ Bz 300 t ∧ Bz 300 e ∧ r = .ok (.int (turnZ o t e).sign)) := by
  obtain ⟨f, fd, F, hm⟩ := T.f_turn.ex
  refine dn_def F sc_turn hm (F.binds fun _ _ _ _ _ _ us hl => match us, hl with | [_, _, _], _ => rfl) ?_ ?_
  · rintro as r ⟨o, t, e, rfl, _⟩
    rfl
  · rintro cdv A outer s H E C as r ⟨o, t, e, rfl, ho, ht, he, rfl⟩
    have m : ∀ {i j : Int}, Lw 300 i → Lw 300 j → CMulW i j := fun h1 h2 => lw_cm h1 h2 (by decide) (by decide) (by decide)
    have m2 : ∀ {i j k l n : Int}, Lw 300 i → Lw 300 j → Lw 300 k → Lw 300 l → Lw 300 n → CMulW i (j * k - l * n) := fun h1 h2 h3 h4 h5 => lw_cm h1 (lw_sub (lw_mul h2 h3) (lw_mul h4 h5)) (by decide) (by decide) (by decide)
    refine ⟨.rt (.ok _), .ok, ?_⟩
    refine bss_cons (bs_set 3 C.nd (be_mul (be_ixT (be_v 0 rfl) be_int rfl) (be_sub (be_mul (be_ixT (be_v 1 rfl) be_int rfl) (be_ixT (be_v 2 rfl) be_int rfl) (m ht.2.1 he.2.2)) (be_mul (be_ixT (be_v 2 rfl) be_int rfl) (be_ixT (be_v 1 rfl) be_int rfl) (m he.2.1 ht.2.2))) (m2 ho.1 ht.2.1 he.2.2 he.2.1 ht.2.2))) ?_
    refine bss_cons (bs_set 3 C.nd (be_sub (be_v 3 rfl) (be_mul (be_ixT (be_v 0 rfl) be_int rfl) (be_sub (be_mul (be_ixT (be_v 1 rfl) be_int rfl) (be_ixT (be_v 2 rfl) be_int rfl) (m ht.1 he.2.2)) (be_mul (be_ixT (be_v 2 rfl) be_int rfl) (be_ixT (be_v 1 rfl) be_int rfl) (m he.1 ht.2.2))) (m2 ho.2.1 ht.1 he.2.2 he.1 ht.2.2)))) ?_
    refine bss_cons (bs_set 3 C.nd (be_add (be_v 3 rfl) (be_mul (be_ixT (be_v 0 rfl) be_int rfl) (be_sub (be_mul (be_ixT (be_v 1 rfl) be_int rfl) (be_ixT (be_v 2 rfl) be_int rfl) (m ht.1 he.2.1)) (be_mul (be_ixT (be_v 2 rfl) be_int rfl) (be_ixT (be_v 1 rfl) be_int rfl) (m he.1 ht.2.1))) (m2 ho.2.2 ht.1 he.2.1 he.1 ht.2.1)))) ?_
    show BSs _ _ _ _ [.v (d3 o), .v (d3 t), .v (d3 e), .v (.int (turnZ o t e))] _
    generalize turnZ o t e = n
    by_cases h1 : 0 < n
    · rw [Int.sign_eq_one_of_pos h1]
      exact bss_rt (bs_ifT (bt_gt (be_v 3 rfl) be_int) (by simpa using h1) (bss_one (bs_ret be_int)))
    · refine bss_cons (bs_ifF (bt_gt (be_v 3 rfl) be_int) (by simpa using h1) bss_nil) ?_
      by_cases h2 : n < 0
      · rw [Int.sign_eq_neg_one_of_neg h2]
        exact bss_rt (bs_ifT (bt_lt (be_v 3 rfl) be_int) (by simpa using h2) (bss_one (bs_ret (be_neg be_int))))
      · refine bss_cons (bs_ifF (bt_lt (be_v 3 rfl) be_int) (by simpa using h2) bss_nil) ?_
        have h3 : n = 0 := by omega
        rw [h3]
        exact bss_one (bs_ret be_int)
theorem d_is_lower (T : Top K mg c) : Dn P w K mg base 1 "is_lower" (fun as r => ∃ a b : Z3, as = [d3 a, d3 b] ∧ Bz 60 a ∧ Bz 60 b ∧ r = .ok (.bool (lowerZ a b))) := by
  obtain ⟨f, fd, F, hm⟩ := T.f_is_lower.ex
  refine dn_def F sc_is_lower hm (F.binds fun _ _ _ _ _ _ us hl => match us, hl with | [_, _], _ => rfl) ?_ ?_
  · rintro as r ⟨a, b, rfl, _⟩
    rfl
  · rintro cdv A outer s H E C as r ⟨a, b, rfl, ha, hb, rfl⟩
    have m : ∀ {i j : Int}, Lw 60 i → Lw 60 j → CMulW i j := fun h1 h2 => lw_cm h1 h2 (by decide) (by decide) (by decide)
    refine ⟨.rt (.ok _), .ok, ?_⟩
    refine bss_cons (bs_set 2 C.nd (be_sub (be_mul (be_ixT (be_v 0 rfl) be_int rfl) (be_ixT (be_v 1 rfl) be_int rfl) (m ha.2.1 hb.2.2)) (be_mul (be_ixT (be_v 1 rfl) be_int rfl) (be_ixT (be_v 0 rfl) be_int rfl) (m hb.2.1 ha.2.2)))) ?_
    unfold lowerZ
    by_cases h : a.2.1 * b.2.2 - b.2.1 * a.2.2 ≠ 0
    · rw [if_pos h]
      exact bss_rt (bs_ifT (bt_neI (be_v 2 rfl) be_int) (by simpa using h) (bss_one (bs_ret (be_lt (be_v 2 rfl) be_int))))
    · rw [if_neg h]
      exact bss_cons (bs_ifF (bt_neI (be_v 2 rfl) be_int) (by simpa using h) bss_nil) (bss_one (bs_ret (be_lt (be_mul (be_ixT (be_v 0 rfl) be_int rfl) (be_ixT (be_v 1 rfl) be_int rfl) (m ha.1 hb.2.2)) (be_mul (be_ixT (be_v 1 rfl) be_int rfl) (be_ixT (be_v 0 rfl) be_int rfl) (m hb.1 ha.2.2)))))
theorem d_need_fence (T : Top K mg c) : Dn P w K mg base 2 "need_fence" (fun as r => ∃ d, as = [d] ∧ r = if fenceChk d = true then .ok .none else .er (c .fence)) := by
  obtain ⟨f, fd, F, hm⟩ := T.f_need_fence.ex
  refine dn_def F sc_need_fence hm (F.binds fun _ _ _ _ _ _ us hl => match us, hl with | [_], _ => rfl) ?_ ?_
  · rintro as r ⟨d, rfl, _⟩
    rfl
  · rintro cdv A outer s H E C as r ⟨d, rfl, rfl⟩
    have G1 := d_is_whole (P := P) (w := w) (base := base) T
    obtain ⟨t1, hs1⟩ := T.g_MOST_STEP
    obtain ⟨t2, hs2⟩ := T.g_MOST_SIDE
    by_cases ht : isTupTy d = true
    · obtain ⟨ds, rfl⟩ := tup_of ht
      by_cases hl : ds.length = 3
      · obtain ⟨x, y, z, rfl⟩ := len3_of hl
        have first : ∀ out, BSs _ _ TAll _ [.v (.tuple [x, y, z]), .no] out → BSs (cxOf (L2.CX P w) P w K mg base ["fence", "number"] "need_fence" (defScope s_need_fence) f cdv A outer s H E) (fun cls d _ H => E cls d H) TAll (defBody s_need_fence) (st0 ["fence", "number"] [.tuple [x, y, z]]) out := fun out h =>
          bss_cons (bs_ifF (bw_or (bt_not (bt_val (be_isi T.z_isinstance T.z_tuple PyProof.Rows.boot_tuple (be_v 0 rfl).r (kit_tuple _)))) (fun _ => bw_or1 (bt_neI (be_lenT T.z_len (be_v 0 rfl).r) be_int))).t rfl bss_nil) h
        by_cases hw : isWhole x = true ∧ isWhole y = true ∧ isWhole z = true
        · obtain ⟨hx, hy, hz⟩ := hw
          obtain ⟨a, rfl⟩ := int_of hx
          obtain ⟨b, rfl⟩ := int_of hy
          obtain ⟨e, rfl⟩ := int_of hz
          have second : ∀ out, BSs _ _ TAll _ [.v (.tuple [.int a, .int b, .int e]), .no] out → BSs (cxOf (L2.CX P w) P w K mg base ["fence", "number"] "need_fence" (defScope s_need_fence) f cdv A outer s H E) (fun cls d _ H => E cls d H) TAll (defBody s_need_fence) (st0 ["fence", "number"] [.tuple [.int a, .int b, .int e]]) out := fun out h =>
            first out (bss_cons (bs_for (out := .nx [.v (.tuple [.int a, .int b, .int e]), .no]) 1 C.hp C.calm C.nd (bi_tup (be_v 0 rfl)) (loop_all trivial _ fun d hd => BSs.fg 1 (env1 := [.v (.tuple [.int a, .int b, .int e]), .v d]) (bss_one (bs_ifF (bt_not (bt_val (be_call G1 C.hr (by decide) (ba_cons (be_v 1 rfl) ba_nil) ⟨_, rfl, rfl⟩))) (by simp at hd; rcases hd with rfl | rfl | rfl <;> rfl) bss_nil)))) h)
          show ∃ out, OutR (if okF (a, b, e) = true then .ok .none else .er (c .fence)) out ∧ _
          by_cases h3 : (decide (1000 < (a.natAbs : Int)) || (decide (1000 < (b.natAbs : Int)) || decide (1000000 < (e.natAbs : Int)))) = true
          · have ho : okF (a, b, e) = false := by
              simp [okF] at h3 ⊢
              omega
            rw [ho]
            exact ⟨.er _ [.v (.tuple [.int a, .int b, .int e]), .no], .er, second _ (bss_er (bs_ifT (bw_or (bt_gt (be_abs T.z_abs (be_ixT (be_v 0 rfl) be_int rfl)) (be_glob hs1)) (fun _ => bw_or (bt_gt (be_abs T.z_abs (be_ixT (be_v 0 rfl) be_int rfl)) (be_glob hs1)) (fun _ => bw_or1 (bt_gt (be_abs T.z_abs (be_ixT (be_v 0 rfl) be_int rfl)) (be_glob hs2))))).t h3 (bss_one (bs_raise T.es.fence C.calm C.tk))))⟩
          · by_cases h4 : (decide (a = 0) && decide (b = 0)) = true
            · have ho : okF (a, b, e) = false := by
                simp [okF] at h3 h4 ⊢
                omega
              rw [ho]
              exact ⟨.er _ [.v (.tuple [.int a, .int b, .int e]), .no], .er, second _ (bss_cons (bs_ifF (bw_or (bt_gt (be_abs T.z_abs (be_ixT (be_v 0 rfl) be_int rfl)) (be_glob hs1)) (fun _ => bw_or (bt_gt (be_abs T.z_abs (be_ixT (be_v 0 rfl) be_int rfl)) (be_glob hs1)) (fun _ => bw_or1 (bt_gt (be_abs T.z_abs (be_ixT (be_v 0 rfl) be_int rfl)) (be_glob hs2))))).t (by simpa using h3) bss_nil) (bss_one (bs_ifT (bw_and (bt_eqI (be_ixT (be_v 0 rfl) be_int rfl) be_int) (fun _ => bw_and1 (bt_eqI (be_ixT (be_v 0 rfl) be_int rfl) be_int))).t h4 (bss_one (bs_raise T.es.fence C.calm C.tk)))))⟩
            · have ho : okF (a, b, e) = true := by
                simp [okF] at h3 h4 ⊢
                omega
              rw [ho]
              exact ⟨.nx [.v (.tuple [.int a, .int b, .int e]), .no], .non, second _ (bss_cons (bs_ifF (bw_or (bt_gt (be_abs T.z_abs (be_ixT (be_v 0 rfl) be_int rfl)) (be_glob hs1)) (fun _ => bw_or (bt_gt (be_abs T.z_abs (be_ixT (be_v 0 rfl) be_int rfl)) (be_glob hs1)) (fun _ => bw_or1 (bt_gt (be_abs T.z_abs (be_ixT (be_v 0 rfl) be_int rfl)) (be_glob hs2))))).t (by simpa using h3) bss_nil) (bss_one (bs_ifF (bw_and (bt_eqI (be_ixT (be_v 0 rfl) be_int rfl) be_int) (fun _ => bw_and1 (bt_eqI (be_ixT (be_v 0 rfl) be_int rfl) be_int))).t (by simpa using h4) bss_nil)))⟩
        · rw [chk_whole hw]
          obtain ⟨ds1, d0, ds2, hs, hg, hb⟩ := first_bad [x, y, z] (fun q => hw ⟨q x (by simp), q y (by simp), q z (by simp)⟩)
          refine ⟨.er _ [.v (.tuple [x, y, z]), .v d0], .er, first _ (bss_er (bs_for (out := .er (c .fence) [.v (.tuple [x, y, z]), .v d0]) 1 C.hp C.calm C.nd (bi_tup (be_v 0 rfl)) (loop_til' (P := fun _ => True) (env := [.v (.tuple [x, y, z]), .no]) ds1 hs trivial (fun d hd => ?_) (.er ?_))))⟩
          · exact BSs.fg 1 (env1 := [.v (.tuple [x, y, z]), .v d]) (bss_one (bs_ifF (bt_not (bt_val (be_call G1 C.hr (by decide) (ba_cons (be_v 1 rfl) ba_nil) ⟨_, rfl, rfl⟩))) (by rw [hg d hd]; rfl) bss_nil))
          · exact bss_one (bs_ifT (bt_not (bt_val (be_call G1 C.hr (by decide) (ba_cons (be_v 1 rfl) ba_nil) ⟨_, rfl, rfl⟩))) (by rw [hb]; rfl) (bss_one (bs_raise T.es.fence C.calm C.tk)))
      · rw [chk_len hl]
        refine ⟨.er _ [.v (.tuple ds), .no], .er, ?_⟩
        exact bss_er (bs_ifT (bw_or (bt_not (bt_val (be_isi T.z_isinstance T.z_tuple PyProof.Rows.boot_tuple (be_v 0 rfl).r (kit_tuple _)))) (fun _ => bw_or1 (bt_neI (be_lenT T.z_len (be_v 0 rfl).r) be_int))).t (by simp [isTupTy]; omega) (bss_one (bs_raise T.es.fence C.calm C.tk)))
    · have ht' : isTupTy d = false := by simpa using ht
      rw [chk_tup ht']
      refine ⟨.er _ [.v d, .no], .er, ?_⟩
      exact bss_er (bs_ifT (bw_or (b2 := true) (bt_not (bt_val (be_isi T.z_isinstance T.z_tuple PyProof.Rows.boot_tuple (be_v 0 rfl).r (kit_tuple _)))) (fun h => by rw [ht'] at h; cases h)).t (by simp [ht']) (bss_one (bs_raise T.es.fence C.calm C.tk)))
theorem d_need_size (T : Top K mg c) : Dn P w K mg base 2 "need_size" (fun as r => ∃ d, as = [d] ∧ r = if sizeChk d = true then .ok .none else .er (c .size)) := by
  obtain ⟨f, fd, F, hm⟩ := T.f_need_size.ex
  refine dn_def F sc_need_size hm (F.binds fun _ _ _ _ _ _ us hl => match us, hl with | [_], _ => rfl) ?_ ?_
  · rintro as r ⟨d, rfl, _⟩
    rfl
  · rintro cdv A outer s H E C as r ⟨d, rfl, rfl⟩
    have G1 := d_is_whole (P := P) (w := w) (base := base) T
    obtain ⟨t1, hs1⟩ := T.g_MOST_SIZE
    by_cases hw : isWhole d = true
    · obtain ⟨n, rfl⟩ := int_of hw
      by_cases h : sizeChk (.int n) = true
      · rw [if_pos h]
        exact ⟨.nx [.v (.int n)], .non, bss_one (bs_ifF (bw_or (bt_not (bt_val (be_call G1 C.hr (by decide) (ba_cons (be_v 0 rfl) ba_nil) ⟨_, rfl, rfl⟩))) (fun _ => bw_or1 (bt_not (bt_chain op_le op_le be_int.r (be_v 0 rfl).r (be_glob hs1).r (s_I0 rfl) (s_I0 rfl))))).t (by rw [show (decide (1 ≤ n) && decide (n ≤ 1000)) = true from h]; rfl) bss_nil)⟩
      · rw [if_neg h]
        have h' : (decide (1 ≤ n) && decide (n ≤ 1000)) = false := by simpa [sizeChk] using h
        exact ⟨.er _ [.v (.int n)], .er, bss_one (bs_ifT (bw_or (bt_not (bt_val (be_call G1 C.hr (by decide) (ba_cons (be_v 0 rfl) ba_nil) ⟨_, rfl, rfl⟩))) (fun _ => bw_or1 (bt_not (bt_chain op_le op_le be_int.r (be_v 0 rfl).r (be_glob hs1).r (s_I0 rfl) (s_I0 rfl))))).t (by rw [h']; rfl) (bss_one (bs_raise T.es.size C.calm C.tk)))⟩
    · have hw' : isWhole d = false := by simpa using hw
      have h : sizeChk d = false := by cases d <;> first | rfl | cases hw'
      rw [h]
      exact ⟨.er _ [.v d], .er, bss_one (bs_ifT (bw_or (b2 := true) (bt_not (bt_val (be_call G1 C.hr (by decide) (ba_cons (be_v 0 rfl) ba_nil) ⟨_, rfl, rfl⟩))) (fun q => by rw [hw'] at q; cases q)).t (by rw [hw']; rfl) (bss_one (bs_raise T.es.size C.calm C.tk)))⟩
theorem d_edges (T : Top K mg c) : Dn P w K mg base 3 "edges" (fun as r => ∃ d, as = [d] ∧ ((∃ n, d = .int n ∧ sizeChk d = true ∧ r = .fr ((edgesZ n).map d3)) ∨ (sizeChk d = false ∧ r = .er (c .size)))) := by
  obtain ⟨f, fd, F, hm⟩ := T.f_edges.ex
  refine dn_def F sc_edges hm (F.binds fun _ _ _ _ _ _ us hl => match us, hl with | [_], _ => rfl) ?_ ?_
  · rintro as r ⟨d, rfl, _⟩
    rfl
  · rintro cdv A outer s H E C as r ⟨d, rfl, h⟩
    have G1 := d_need_size (P := P) (w := w) (base := base) T
    rcases h with ⟨n, rfl, h, rfl⟩ | ⟨h, rfl⟩
    · exact ⟨.rt (.fr _), .fr, bss_cons (bs_expr (be_call G1 C.hr (by decide) (ba_cons (be_v 0 rfl) ba_nil) ⟨_, rfl, by rw [if_pos h]⟩))
        (bss_one (bs_ret (be_lst (ba_cons (be_tup (ba_cons (be_neg be_int) (ba_cons be_int (ba_cons be_int ba_nil)))) (ba_cons (be_tup (ba_cons be_int (ba_cons (be_neg be_int) (ba_cons be_int ba_nil)))) (ba_cons (be_tup (ba_cons be_int (ba_cons be_int (ba_cons (be_v 0 rfl) ba_nil)))) (ba_cons (be_tup (ba_cons be_int (ba_cons be_int (ba_cons (be_v 0 rfl) ba_nil)))) ba_nil)))) (by show 4 ≤ sizeLine; decide))))⟩
    · exact ⟨.er _ [.v d], .er, bss_er (bs_exprX (bx_call G1 C.tk C.hr (by decide) (ba_cons (be_v 0 rfl) ba_nil) ⟨_, rfl, by rw [h]; rfl⟩))⟩
theorem d_with_edges (T : Top K mg c) : Dn P w K mg base 4 "with_edges" (fun as r => ∃ d ds, as = [d, .list ds] ∧ weG c r d ds) := by
  obtain ⟨f, fd, F, hm⟩ := T.f_with_edges.ex
  refine dn_def F sc_with_edges hm (F.binds fun _ _ _ _ _ _ us hl => match us, hl with | [_, _], _ => rfl) ?_ ?_
  · rintro as r ⟨d, ds, rfl, _⟩
    rfl
  · rintro cdv A outer s H E C as r ⟨d, ds, rfl, h⟩
    have G1 := d_need_size (P := P) (w := w) (base := base) T
    have G2 := d_need_fence (P := P) (w := w) (base := base) T
    have G3 := d_edges (P := P) (w := w) (base := base) T
    obtain ⟨t1, hs1⟩ := T.g_MOST_FENCES
    rcases h with ⟨n, fs, rfl, rfl, hs, hl, hf, rfl⟩ | ⟨e, he, rfl⟩
    · refine ⟨.rt (.fr _), .fr, ?_⟩
      refine bss_cons (bs_expr (be_call G1 C.hr (by decide) (ba_cons (be_v 0 rfl) ba_nil) ⟨_, rfl, by rw [if_pos hs]⟩)) ?_
      refine bss_cons (bs_ifF (bt_gt (be_len T.z_len (be_v 1 rfl).r) (be_glob hs1)) (by simp; omega) bss_nil) ?_
      refine bss_cons (env1 := [.v (.int n), .v (.list (fs.map d3)), .no]) (bs_for (out := .nx [.v (.int n), .v (.list (fs.map d3)), .no]) 2 C.hp C.calm C.nd (bi_list (be_v 1 rfl)) (loop_all trivial _ fun x hx => BSs.fg 2 (env1 := [.v (.int n), .v (.list (fs.map d3)), .v x]) (bss_one (bs_expr (be_call G2 C.hr (by decide) (ba_cons (be_v 2 rfl) ba_nil) ⟨_, rfl, by rw [if_pos (all_chk hf x hx)]⟩))))) ?_
      refine bss_one (bs_ret (BE.to (be_cat (be_v 1 rfl) (BE.list (be_callF G3 C.hr (by decide) (ba_cons (be_v 0 rfl) ba_nil) ⟨_, rfl, .inl ⟨n, rfl, hs, rfl⟩⟩)) ?_) ?_))
      · rw [List.length_map, List.length_map]
        show fs.length + 4 ≤ sizeLine
        exact Nat.le_trans (Nat.add_le_add_right hl 4) (by decide)
      · unfold rowsZ
        rw [List.map_append]
    · unfold weErr at he
      by_cases hs : sizeChk d = false
      · rw [if_pos hs] at he
        cases he
        exact ⟨.er _ [.v d, .v (.list ds), .no], .er, bss_er (bs_exprX (bx_call G1 C.tk C.hr (by decide) (ba_cons (be_v 0 rfl) ba_nil) ⟨_, rfl, by rw [hs]; rfl⟩))⟩
      · rw [if_neg hs] at he
        have hs' : sizeChk d = true := by simpa using hs
        by_cases hm : 16 < ds.length
        · rw [if_pos hm] at he
          cases he
          refine ⟨.er _ [.v d, .v (.list ds), .no], .er, ?_⟩
          refine bss_cons (bs_expr (be_call G1 C.hr (by decide) (ba_cons (be_v 0 rfl) ba_nil) ⟨_, rfl, by rw [if_pos hs']⟩)) ?_
          exact bss_er (bs_ifT (bt_gt (be_len T.z_len (be_v 1 rfl).r) (be_glob hs1)) (by simp; omega) (bss_one (bs_raise T.es.many C.calm C.tk)))
        · rw [if_neg hm] at he
          by_cases ha : ds.all fenceChk = false
          · rw [if_pos ha] at he
            cases he
            obtain ⟨ds1, d0, ds2, hsp, hg, hb⟩ := first_not fenceChk ds ha
            refine ⟨.er _ [.v d, .v (.list ds), .v d0], .er, ?_⟩
            refine bss_cons (bs_expr (be_call G1 C.hr (by decide) (ba_cons (be_v 0 rfl) ba_nil) ⟨_, rfl, by rw [if_pos hs']⟩)) ?_
            refine bss_cons (bs_ifF (bt_gt (be_len T.z_len (be_v 1 rfl).r) (be_glob hs1)) (by simp; omega) bss_nil) ?_
            refine bss_er (bs_for (out := .er (c .fence) [.v d, .v (.list ds), .v d0]) 2 C.hp C.calm C.nd (bi_list (be_v 1 rfl)) (loop_til' (P := fun _ => True) (env := [.v d, .v (.list ds), .no]) ds1 hsp trivial (fun x hx => ?_) (.er ?_)))
            · exact BSs.fg 2 (env1 := [.v d, .v (.list ds), .v x]) (bss_one (bs_expr (be_call G2 C.hr (by decide) (ba_cons (be_v 2 rfl) ba_nil) ⟨_, rfl, by rw [if_pos (hg x hx)]⟩)))
            · exact bss_one (bs_exprX (bx_call G2 C.tk C.hr (by decide) (ba_cons (be_v 2 rfl) ba_nil) ⟨_, rfl, by rw [hb]; rfl⟩))
          · rw [if_neg ha] at he
            cases he
theorem d_reach (T : Top K mg c) : Dn P w K mg base 1 "reach" (fun as r => ∃ f s : Z3, as = [d3 f, d3 s] ∧ Bz 64 f ∧ r = .ok (.int (reachZ f s))) := by
  obtain ⟨f, fd, F, hm⟩ := T.f_reach.ex
  refine dn_def F sc_reach hm (F.binds fun _ _ _ _ _ _ us hl => match us, hl with | [_, _], _ => rfl) ?_ ?_
  · rintro as r ⟨f, s, rfl, _⟩
    rfl
  · rintro cdv A outer s H E C as r ⟨f, z, rfl, hb, rfl⟩
    exact ⟨.rt (.ok _), .ok, bss_one (bs_ret (be_sub (be_add (be_mulS (be_ixT (be_v 0 rfl) be_int rfl) (be_ixT (be_v 1 rfl) be_int rfl) (.inl (lw64 hb.1))) (be_mulS (be_ixT (be_v 0 rfl) be_int rfl) (be_ixT (be_v 1 rfl) be_int rfl) (.inl (lw64 hb.2.1)))) (be_mulS (be_ixT (be_v 0 rfl) be_int rfl) (be_ixT (be_v 1 rfl) be_int rfl) (.inl (lw64 hb.2.2)))))⟩
theorem d_cross (T : Top K mg c) : Dn P w K mg base 1 "cross" (fun as r => ∃ (x y x' y' : Int) (u u' : List D), as = [.tuple (.int x :: .int y :: u), .tuple (.int x' :: .int y' :: u')] ∧ Lw 64 x ∧ Lw 64 y ∧ r = .ok (.int (x * y' - y * x'))) := by
  obtain ⟨f, fd, F, hm⟩ := T.f_cross.ex
  refine dn_def F sc_cross hm (F.binds fun _ _ _ _ _ _ us hl => match us, hl with | [_, _], _ => rfl) ?_ ?_
  · rintro as r ⟨x, y, x', y', u, u', rfl, _⟩
    rfl
  · rintro cdv A outer s H E C as r ⟨x, y, x', y', u, u', rfl, h1, h2, rfl⟩
    have a0 : ∀ (d : D) (ds : List D), atI (d :: ds) 0 = some d := fun d ds => by
      show atI (d :: ds) ((0 : Nat) : Int) = _
      exact atI_nat rfl
    have a1 : ∀ (d d' : D) (ds : List D), atI (d :: d' :: ds) 1 = some d' := fun d d' ds => by
      show atI (d :: d' :: ds) ((1 : Nat) : Int) = _
      exact atI_nat rfl
    exact ⟨.rt (.ok _), .ok, bss_one (bs_ret (be_sub (be_mulS (be_ixT (be_v 0 rfl) be_int (a0 _ _)) (be_ixT (be_v 1 rfl) be_int (a1 _ _ _)) (.inl (lw64 h1))) (be_mulS (be_ixT (be_v 0 rfl) be_int (a1 _ _ _)) (be_ixT (be_v 1 rfl) be_int (a0 _ _)) (.inl (lw64 h2)))))⟩
theorem d_meeting (T : Top K mg c) : Dn P w K mg base 3 "meeting" (fun as r => ∃ o p : Z3, as = [d3 o, d3 p] ∧ Bz 64 o ∧ Bz 64 p ∧ r = .ok (meetD o p)) := by
  obtain ⟨f, fd, F, hm⟩ := T.f_meeting.ex
  refine dn_def F sc_meeting hm (F.binds fun _ _ _ _ _ _ us hl => match us, hl with | [_, _], _ => rfl) ?_ ?_
  · rintro as r ⟨f, s, rfl, _⟩
    rfl
  · rintro cdv A outer s H E C as r ⟨o, p, rfl, ho, hp, rfl⟩
    have G1 := d_cross (P := P) (w := w) (base := base) T
    have G2 := d_spot_of (P := P) (w := w) (base := base) T
    refine ⟨.rt (.ok _), .ok, ?_⟩
    refine bss_cons (bs_set 2 C.nd (be_call G1 C.hr (by decide) (ba_cons (be_v 0 rfl) (ba_cons (be_v 1 rfl) ba_nil)) ⟨o.1, o.2.1, p.1, p.2.1, _, _, rfl, ho.1, ho.2.1, rfl⟩)) ?_
    show BSs _ _ _ _ [.v (d3 o), .v (d3 p), .v (.int (crossZ o p))] (.rt (.ok (meetD o p)))
    unfold meetD
    by_cases h : crossZ o p = 0
    · rw [if_pos h]
      exact bss_rt (bs_ifT (bt_eqI (be_v 2 rfl) be_int) (by simpa using h) (bss_one (bs_ret be_non)))
    · rw [if_neg h]
      refine bss_cons (bs_ifF (bt_eqI (be_v 2 rfl) be_int) (by simpa using h) bss_nil) ?_
      exact bss_one (bs_ret (be_call G2 C.hr (by decide) (ba_cons (be_sub (be_mulS (be_ixT (be_v 0 rfl) be_int rfl) (be_ixT (be_v 1 rfl) be_int rfl) (.inl (lw64 ho.2.2))) (be_mulS (be_ixT (be_v 1 rfl) be_int rfl) (be_ixT (be_v 0 rfl) be_int rfl) (.inl (lw64 hp.2.2)))) (ba_cons (be_sub (be_mulS (be_ixT (be_v 0 rfl) be_int rfl) (be_ixT (be_v 1 rfl) be_int rfl) (.inl (lw64 ho.1))) (be_mulS (be_ixT (be_v 1 rfl) be_int rfl) (be_ixT (be_v 0 rfl) be_int rfl) (.inl (lw64 hp.1)))) (ba_cons (be_v 2 rfl) ba_nil))) ⟨_, _, _, rfl, .inl ⟨_, _, _, rfl, rfl, rfl, h, (cross_lw ho hp).mono (by decide), rfl⟩⟩))
theorem d_keeps (T : Top K mg c) : Dn P w K mg base 2 "keeps" (fun as r => ∃ (rows : List Z3) (z : Z3), as = [.list (rows.map d3), d3 z] ∧ (∀ f, f ∈ rows → okF f = true) ∧ r = .ok (.bool (keepsZ rows z))) := by
  obtain ⟨f, fd, F, hm⟩ := T.f_keeps.ex
  refine dn_def F sc_keeps hm (F.binds fun _ _ _ _ _ _ us hl => match us, hl with | [_, _], _ => rfl) ?_ ?_
  · rintro as r ⟨rows, z, rfl, _⟩
    rfl
  · rintro cdv A outer s H E C as r ⟨rows, z, rfl, hok, rfl⟩
    have G1 := d_reach (P := P) (w := w) (base := base) T
    have hb : ∀ x, x ∈ rows → Bz 64 x := fun x hx => (okF_lw (hok x hx)).mono (by decide)
    refine ⟨.rt (.ok _), .ok, ?_⟩
    by_cases h : keepsZ rows z = true
    · rw [h]
      refine bss_cons (bs_for (out := .nx [.v (.list (rows.map d3)), .v (d3 z), .no]) 2 C.hp C.calm C.nd (bi_list (be_v 0 rfl)) (loop_allT d3 _ trivial h fun x hx hp => ?_)) (bss_one (bs_ret be_bl))
      exact BSs.fg 2 (env1 := [.v (.list (rows.map d3)), .v (d3 z), .v (d3 x)]) (bss_one (bs_ifF (bt_gt (be_call G1 C.hr (by decide) (ba_cons (be_v 2 rfl) (ba_cons (be_v 1 rfl) ba_nil)) ⟨_, _, rfl, hb x hx, rfl⟩) be_int) (by simpa using hp) bss_nil))
    · have h' : keepsZ rows z = false := by simpa using h
      rw [h']
      refine bss_rt (bs_for (out := .rt (.ok (.bool false))) 2 C.hp C.calm C.nd (bi_list (be_v 0 rfl)) (loop_allF d3 _ trivial h' (fun x hx hp => ?_) (fun x hx hp => ?_)))
      · exact BSs.fg 2 (env1 := [.v (.list (rows.map d3)), .v (d3 z), .v (d3 x)]) (bss_one (bs_ifF (bt_gt (be_call G1 C.hr (by decide) (ba_cons (be_v 2 rfl) (ba_cons (be_v 1 rfl) ba_nil)) ⟨_, _, rfl, hb x hx, rfl⟩) be_int) (by simpa using hp) bss_nil))
      · exact bss_one (bs_ifT (bt_gt (be_call G1 C.hr (by decide) (ba_cons (be_v 2 rfl) (ba_cons (be_v 1 rfl) ba_nil)) ⟨_, _, rfl, hb x hx, rfl⟩) be_int) (by simpa using hp) (bss_one (bs_ret be_bl)))
theorem d_meetings (T : Top K mg c) : Dn P w K mg base 4 "meetings" (fun as r => ∃ rows : List Z3, as = [.list (rows.map d3)] ∧ rows.length ≤ 20 ∧ (∀ f, f ∈ rows → okF f = true) ∧ r = .fr ((meetingsZ rows).map d3)) := by
  obtain ⟨f, fd, F, hm⟩ := T.f_meetings.ex
  refine dn_def F sc_meetings hm (F.binds fun _ _ _ _ _ _ us hl => match us, hl with | [_], _ => rfl) ?_ ?_
  · rintro as r ⟨rows, rfl, _⟩
    rfl
  · rintro cdv A outer s H E C as r ⟨rows, rfl, hl, hok, rfl⟩
    have G1 := d_meeting (P := P) (w := w) (base := base) T
    have G2 := d_keeps (P := P) (w := w) (base := base) T
    refine ⟨.rt (.fr _), .fr, ?_⟩
    refine bss_cons (env1 := [.v (.list (rows.map d3)), .keys [], .no, .no, .no]) (bs_dict 1 C.nd) ?_
    refine bss_cons (env1 := [.v (.list (rows.map d3)), .keys ((meetingsZ rows).map z3l), .no, .no, .no]) (bs_for (out := .nx [.v (.list (rows.map d3)), .keys ((meetingsZ rows).map z3l), .no, .no, .no]) 2 C.hp C.calm C.nd (bi_rng1 T.z_range (be_len T.z_len (be_v 0 rfl).r) (by rw [List.length_map]; omega) (by rw [List.length_map]; omega)) ?lp) ?_
    case lp =>
      rw [List.length_map]
      refine loop_foldJ (P := fun _ => True) (fun fs => [.v (.list (rows.map d3)), .keys (fs.map z3l), .no, .no, .no]) (fun (i : Nat) => PyData.int (0 + (i : Int))) (meetRow rows) (fun i s => s.length ≤ 20 * i) 20 (fun _ => trivial) (List.range rows.length) 0 [] (by simp; omega) (by simp) ?_
      intro i fs k hk hi hs
      have hk' : k < rows.length := by simpa using hk
      have hlen := meetRow_len (found := fs) (k := k) hl
      refine ⟨?_, by omega⟩
      have hko := hok _ (getD_mem (z := ((0, 0, 0) : Z3)) hk')
      have hat : atI (rows.map d3) (0 + (k : Int)) = some (d3 (rows.getD k (0, 0, 0))) := by
        rw [Int.zero_add]
        refine (atI_mapD (0, 0, 0) (by omega) (by omega)).trans ?_
        rw [Int.toNat_natCast]
      refine BSs.fg 2 (env1 := [.v (.list (rows.map d3)), .keys ((meetRow rows fs k).map z3l), .v (.int (0 + (k : Int))), .no, .no]) ?_
      refine bss_one (bs_for (out := .nx [.v (.list (rows.map d3)), .keys ((meetRow rows fs k).map z3l), .v (.int (0 + (k : Int))), .no, .no]) 3 C.hp C.calm C.nd (bi_list (BE.list (be_slice (be_v 0 rfl) (bo_some (be_add (be_v 2 rfl) be_int)) bo_none))) ?_)
      rw [cutA_lo _ (by omega), show ((0 + (k : Int)) + 1).toNat = k + 1 from by omega, ← List.map_drop]
      refine loop_foldJ (P := fun _ => True) (fun fs => [.v (.list (rows.map d3)), .keys (fs.map z3l), .v (.int (0 + (k : Int))), .no, .no]) d3 (fun fs p => meetStep rows fs (rows.getD k (0, 0, 0)) p) (fun j s => s.length ≤ fs.length + j) 20 (fun _ => trivial) (rows.drop (k + 1)) 0 fs (by simp; omega) (by simp) ?_
      intro j gs p hp hj hgs
      have hpo := hok p (List.mem_of_mem_drop hp)
      have hsl := meetStep_len (rows := rows) (found := gs) (o := rows.getD k (0, 0, 0)) (p := p)
      refine ⟨?_, by omega⟩
      generalize rows.getD k (0, 0, 0) = o at hko hat hsl ⊢
      have ho64 : Bz 64 o := (okF_lw hko).mono (by decide)
      have hp64 : Bz 64 p := (okF_lw hpo).mono (by decide)
      refine BSs.fg 3 (env1 := [.v (.list (rows.map d3)), .keys ((meetStep rows gs o p).map z3l), .v (.int (0 + (k : Int))), .v (d3 p), .no]) (BSs.fg 4 (env1 := [.v (.list (rows.map d3)), .keys ((meetStep rows gs o p).map z3l), .v (.int (0 + (k : Int))), .v (d3 p), .v (meetD o p)]) ?_)
      refine bss_cons (bs_set 4 C.nd (be_call G1 C.hr (by decide) (ba_cons (be_ix (be_v 0 rfl) (be_v 2 rfl) hat) (ba_cons (be_v 3 rfl) ba_nil)) ⟨o, p, rfl, ho64, hp64, rfl⟩)) ?_
      unfold meetStep meetD
      by_cases hx : crossZ o p = 0
      · rw [if_pos hx, if_neg (fun q => q.1 hx)]
        exact bss_one (bs_ifF (bw_and (b2 := true) (bt_notN (be_v 4 rfl).r) (fun q => by cases q)).t rfl bss_nil)
      · rw [if_neg hx]
        by_cases hc : meetZ o p ∉ gs ∧ keepsZ rows (meetZ o p) = true
        · rw [if_pos ⟨hx, hc.1, hc.2⟩]
          have hnm : z3l (meetZ o p) ∉ gs.map z3l := fun q => hc.1 (z3l_mem.mp q)
          refine BSs.to (bss_one (bs_ifT (bw_and (bt_notN (be_v 4 rfl).r) (fun _ => bw_and (bt_keyNotIn (k := z3l (meetZ o p)) 1 C.u1 rfl (be_v 4 rfl)) (fun _ => bw_and1 (bt_val (be_call G2 C.hr (by decide) (ba_cons (be_v 0 rfl) (ba_cons (be_v 4 rfl) ba_nil)) ⟨rows, meetZ o p, rfl, hok, rfl⟩))))).t (by rw [decide_eq_false hnm, hc.2]; rfl) (bss_one (bs_keyPut (k := z3l (meetZ o p)) 1 C.u1 rfl (be_v 4 rfl) hnm ?_)))) ?_
          · rw [List.length_map]
            exact Nat.lt_of_le_of_lt (by omega : gs.length ≤ 440) (by decide)
          · rw [List.map_append]
            rfl
        · rw [if_neg (fun q => hc q.2)]
          refine bss_one (bs_ifF (bw_and (bt_notN (be_v 4 rfl).r) (fun _ => bw_and (bt_keyNotIn (k := z3l (meetZ o p)) 1 C.u1 rfl (be_v 4 rfl)) (fun _ => bw_and1 (bt_val (be_call G2 C.hr (by decide) (ba_cons (be_v 0 rfl) (ba_cons (be_v 4 rfl) ba_nil)) ⟨rows, meetZ o p, rfl, hok, rfl⟩))))).t ?_ bss_nil)
          by_cases hm : z3l (meetZ o p) ∈ gs.map z3l
          · rw [decide_eq_true hm]
            rfl
          · have hk : keepsZ rows (meetZ o p) = false := by
              cases hkk : keepsZ rows (meetZ o p) with
              | false => rfl
              | true => exact absurd ⟨fun q => hm (z3l_mem.mpr q), hkk⟩ hc
            rw [decide_eq_false hm, hk]
            rfl
    refine bss_one (bs_ret (BE.to (be_listKeys 1 C.calm rfl T.z_list) ?_))
    rw [z3l_d3]
theorem d_in_order (T : Top K mg c) : Dn P w K mg base 2 "in_order" (fun as r => ∃ zs : List Z3, as = [.list (zs.map d3)] ∧ zs ≠ [] ∧ zs.length ≤ 400 ∧ (∀ z, z ∈ zs → Bz 60 z) ∧ r = .fr ((orderZ zs).map d3)) := by
  obtain ⟨f, fd, F, hm⟩ := T.f_in_order.ex
  refine dn_def F sc_in_order hm (F.binds fun _ _ _ _ _ _ us hl => match us, hl with | [_], _ => rfl) ?_ ?_
  · rintro as r ⟨rows, rfl, _⟩
    rfl
  · rintro cdv A outer s H E C as r ⟨zs, rfl, hne, hl, hb, rfl⟩
    have G1 := d_is_lower (P := P) (w := w) (base := base) T
    have G2 := d_turn (P := P) (w := w) (base := base) T
    have h0 : 0 < zs.length := List.length_pos_iff.mpr hne
    refine ⟨.rt (.fr _), .fr, ?_⟩
    refine bss_cons (bs_set 1 C.nd (be_ix (be_v 0 rfl) be_int (atI_mapD (k := 0) (0, 0, 0) (by decide) (by omega)))) ?_
    have hf := firstZ_mem hne
    refine bss_cons (env1 := [.v (.list (zs.map d3)), .v (d3 (firstZ zs)), .no, .no, .no]) (bs_for (out := .nx [.v (.list (zs.map d3)), .v (d3 (firstZ zs)), .no, .no, .no]) 2 C.hp C.calm C.nd (bi_list (be_v 0 rfl)) (loop_fold (fun z => [.v (.list (zs.map d3)), .v (d3 z), .no, .no, .no]) d3 lowStep (fun z => z ∈ zs) (fun _ => trivial) zs (zs.getD 0 (0, 0, 0)) (getD_mem h0) ?lp)) ?_
    case lp =>
      intro z x hx hz
      refine ⟨?_, lowStep_mem hz hx⟩
      refine BSs.fg 2 (env1 := [.v (.list (zs.map d3)), .v (d3 (lowStep z x)), .v (d3 x), .no, .no]) ?_
      unfold lowStep
      by_cases h : lowerZ x z = true
      · rw [if_pos h]
        exact bss_one (bs_ifT (bt_val (be_call G1 C.hr (by decide) (ba_cons (be_v 2 rfl) (ba_cons (be_v 1 rfl) ba_nil)) ⟨_, _, rfl, hb x hx, hb z hz, rfl⟩)) h (bss_one (bs_set 1 C.nd (be_v 2 rfl))))
      · rw [if_neg h]
        exact bss_one (bs_ifF (bt_val (be_call G1 C.hr (by decide) (ba_cons (be_v 2 rfl) (ba_cons (be_v 1 rfl) ba_nil)) ⟨_, _, rfl, hb x hx, hb z hz, rfl⟩)) (by simpa using h) bss_nil)
    unfold orderZ
    generalize firstZ zs = first at hf ⊢
    have hfb : Bz 300 first := (hb first hf).mono (by decide)
    refine bss_cons (bs_own 3 C.nd (be_lst ba_nil)) ?_
    refine bss_cons (env1 := [.v (.list (zs.map d3)), .v (d3 first), .no, .own ((zs.foldl (insStep first) []).map d3), .no]) (bs_for (out := .nx [.v (.list (zs.map d3)), .v (d3 first), .no, .own ((zs.foldl (insStep first) []).map d3), .no]) 2 C.hp C.calm C.nd (bi_list (be_v 0 rfl)) (loop_foldJ (fun fs => [.v (.list (zs.map d3)), .v (d3 first), .no, .own (fs.map d3), .no]) d3 (insStep first) (fun i fs => fs.length ≤ i ∧ ∀ z, z ∈ fs → z ∈ zs) 400 (fun _ => trivial) zs 0 [] (by omega) ⟨by simp, by simp⟩ ?hl)) ?_
    case hl =>
      intro i fs x hx hi hfs
      obtain ⟨hfl, hfm⟩ := hfs
      unfold insStep
      by_cases h : x = first
      · rw [if_pos h]
        refine ⟨?_, by omega, hfm⟩
        refine BSs.fg 2 (env1 := [.v (.list (zs.map d3)), .v (d3 first), .v (d3 x), .own (fs.map d3), .no]) ?_
        exact bss_one (bs_ifF (bt_neD C.u (be_v 2 rfl).r (be_v 1 rfl).r (d3_shaped _) (d3_shaped _)) (by rw [eqv_d3, decide_eq_true h]; rfl) bss_nil)
      · rw [if_neg h]
        refine ⟨?_, ?_, ?_⟩
        · refine BSs.fg 2 (env1 := [.v (.list (zs.map d3)), .v (d3 first), .v (d3 x), .own ((fs.take (insAt first fs x) ++ x :: fs.drop (insAt first fs x)).map d3), .no]) (BSs.fg 4 (env1 := [.v (.list (zs.map d3)), .v (d3 first), .v (d3 x), .own ((fs.take (insAt first fs x) ++ x :: fs.drop (insAt first fs x)).map d3), .v (.int (insAt first fs x))]) ?_)
          refine bss_one (bs_ifT (bt_neD C.u (be_v 2 rfl).r (be_v 1 rfl).r (d3_shaped _) (d3_shaped _)) (by rw [eqv_d3, decide_eq_false h]; rfl) ?_)
          refine bss_cons (bs_set 4 C.nd be_int) ?_
          have hxb : Bz 300 x := (hb x hx).mono (by decide)
          refine bss_cons (env1 := [.v (.list (zs.map d3)), .v (d3 first), .v (d3 x), .own (fs.map d3), .v (.int (insAt first fs x))]) (bs_whileE C.hp (take_loop0 (fun q => decide (0 < turnZ first q x)) fs (fun k => [.v (.list (zs.map d3)), .v (d3 first), .v (d3 x), .own (fs.map d3), .v (.int (k : Int))]) rfl rfl ?hT ?hE ?hB)) ?_
          case hT =>
            intro k y hk
            have hkl : k < fs.length := (List.getElem?_eq_some_iff.mp hk).1
            have hy : y ∈ fs := List.mem_of_getElem? hk
            have hyb : Bz 300 y := (hb y (hfm y hy)).mono (by decide)
            refine BT.to (bw_and (bt_lt (be_v 4 rfl) (be_len T.z_len (br_own 3 rfl))) (fun _ => bw_and1 (bt_gt (be_call G2 C.hr (by decide) (ba_cons (be_v 1 rfl) (ba_cons (be_ixO 3 rfl (be_v 4 rfl) (atI_nat (v := d3 y) (by rw [List.getElem?_map, hk]; rfl))) (ba_cons (be_v 2 rfl) ba_nil))) ⟨_, _, _, rfl, hfb, hyb, hxb, rfl⟩) be_int))).t ?_
            rw [List.length_map, decide_eq_true (by omega : (k : Int) < fs.length), Bool.true_and]
            congr 1
            exact propext ⟨fun q => Int.sign_pos_iff.mp q, fun q => Int.sign_pos_iff.mpr q⟩
          case hE =>
            refine BT.to (bw_and (b2 := false) (bt_lt (be_v 4 rfl) (be_len T.z_len (br_own 3 rfl))) (fun q => ?_)).t (by rw [Bool.and_false])
            rw [List.length_map, decide_eq_false (by omega)] at q
            cases q
          case hB =>
            intro k hk
            exact BSs.to (bss_one (bs_set 4 C.nd (be_add (be_v 4 rfl) be_int))) rfl
          refine BSs.to (bss_one (bs_insert (k := insAt first fs x) 3 rfl (be_v 4 rfl) (be_v 2 rfl) (by rw [List.length_map]; exact Nat.lt_of_le_of_lt (by omega : fs.length ≤ 400) (by decide)) ?_)) ?_
          · have : insAt first fs x ≤ fs.length := (List.takeWhile_prefix _).length_le
            omega
          · rw [← List.map_take, ← List.map_drop, List.map_append, List.map_cons]
            simp
        · simp
          omega
        · intro z hz
          rcases List.mem_append.mp hz with q | q
          · exact hfm z (List.mem_of_mem_take q)
          · rcases List.mem_cons.mp q with rfl | q
            · exact hx
            · exact hfm z (List.mem_of_mem_drop q)
    refine bss_one (bs_ret (be_catO2 3 (BE.list (be_lst (ba_cons (be_v 1 rfl) ba_nil))) rfl ?_))
    rw [List.length_map]
    have := ins_len (first := first) zs
    show 1 + _ ≤ sizeLine
    exact Nat.le_trans (by omega : _ ≤ 401) (by decide)
theorem d_corners (T : Top K mg c) : Dn P w K mg base 5 "corners" (fun as r => ∃ (n : Int) (fs : List Z3), as = [.int n, .list (fs.map d3)] ∧ sizeChk (.int n) = true ∧ fs.length ≤ 16 ∧ (∀ f, f ∈ fs → okF f = true) ∧ r = .fr ((cornersZ (rowsZ n fs)).map d3)) := by
  obtain ⟨f, fd, F, hm⟩ := T.f_corners.ex
  refine dn_def F sc_corners hm (F.binds fun _ _ _ _ _ _ us hl => match us, hl with | [_, _], _ => rfl) ?_ ?_
  · rintro as r ⟨n, fs, rfl, _⟩
    rfl
  · rintro cdv A outer s H E C as r ⟨n, fs, rfl, hs, hl, hf, rfl⟩
    have G1 := d_with_edges (P := P) (w := w) (base := base) T
    have G2 := d_meetings (P := P) (w := w) (base := base) T
    have G3 := d_in_order (P := P) (w := w) (base := base) T
    have hrl : (rowsZ n fs).length ≤ 20 := by
      rw [rows_len]
      omega
    have hro := rows_ok hs hf
    refine ⟨.rt (.fr _), .fr, ?_⟩
    refine bss_cons (bs_set 2 C.nd (BE.list (be_callF G2 C.hr (by decide) (ba_cons (BE.list (be_callF G1 C.hr (by decide) (ba_cons (be_v 0 rfl) (ba_cons (be_v 1 rfl) ba_nil)) ⟨_, _, rfl, .inl ⟨n, fs, rfl, rfl, hs, hl, hf, rfl⟩⟩)) ba_nil) ⟨_, rfl, hrl, hro, rfl⟩))) ?_
    have hb : ∀ z, z ∈ meetingsZ (rowsZ n fs) → Bz 60 z := fun z hz => (meetings_bz hro hz).mono (by decide)
    have hml := meetings_len hrl
    unfold cornersZ
    generalize meetingsZ (rowsZ n fs) = zs at hb hml ⊢
    by_cases h : zs = []
    · rw [if_pos h]
      exact bss_rt (bs_ifT (bt_eqD C.u (be_v 2 rfl).r (BE.list (be_lst ba_nil)).r (shaped_d3s _) (shaped_d3s [])) ((eqv_d3s zs []).trans (decide_eq_true h)) (bss_one (bs_ret (be_lst ba_nil))))
    · rw [if_neg h]
      exact bss_cons (bs_ifF (bt_eqD C.u (be_v 2 rfl).r (BE.list (be_lst ba_nil)).r (shaped_d3s _) (shaped_d3s [])) ((eqv_d3s zs []).trans (decide_eq_false h)) bss_nil) (bss_one (bs_ret (be_callF G3 C.hr (by decide) (ba_cons (be_v 2 rfl) ba_nil) ⟨_, rfl, h, hml, hb, rfl⟩)))
theorem d_corners_land (T : Top K mg c) : Dn P w K mg base 5 "corners_land" (fun as r => ∃ (n : Int) (fs : List Z3), as = [.int n, .list (fs.map d3)] ∧ sizeChk (.int n) = true ∧ fs.length ≤ 16 ∧ (∀ f, f ∈ fs → okF f = true) ∧ r = .fr ((cornersZ (rowsZ n fs)).map d3)) := by
  obtain ⟨f, fd, ps, F, hm, kp, hb⟩ := (d_corners (P := P) (w := w) (base := base) T).ex
  obtain ⟨f2, h1, h2⟩ := T.al_corners_land
  rw [hm] at h1
  cases h1
  exact ⟨f, fd, ps, F, h2, kp, hb⟩
theorem d_twice_area (T : Top K mg c) : Dn P w K mg base 6 "twice_area" (fun as r => ∃ (n : Int) (fs : List Z3), as = [.int n, .list (fs.map d3)] ∧ sizeChk (.int n) = true ∧ fs.length ≤ 16 ∧ (∀ f, f ∈ fs → okF f = true) ∧ r = .ok (d2 (areaZ (cornersZ (rowsZ n fs))))) := by
  obtain ⟨f, fd, F, hm⟩ := T.f_twice_area.ex
  refine dn_def F sc_twice_area hm (F.binds fun _ _ _ _ _ _ us hl => match us, hl with | [_, _], _ => rfl) ?_ ?_
  · rintro as r ⟨n, fs, rfl, _⟩
    rfl
  · rintro cdv A outer s H E C as r ⟨n, fs, rfl, hs, hl, hf, rfl⟩
    have G1 := d_corners_land (P := P) (w := w) (base := base) T
    have G2 := d_shared (P := P) (w := w) (base := base) T
    have hro := rows_ok hs hf
    have hcl := corners_len190 (rows := rowsZ n fs) (by rw [rows_len]; omega)
    have hcb : ∀ z, z ∈ cornersZ (rowsZ n fs) → Bw z := fun z hz => corners_bw hro hz
    refine ⟨.rt (.ok _), .ok, ?_⟩
    refine bss_cons (bs_set 2 C.nd (BE.list (be_callF G1 C.hr (by decide) (ba_cons (be_v 0 rfl) (ba_cons (be_v 1 rfl) ba_nil)) ⟨n, fs, rfl, hs, hl, hf, rfl⟩))) ?_
    generalize cornersZ (rowsZ n fs) = cs at hcl hcb ⊢
    refine bss_cons (bs_set 3 C.nd be_int) ?_
    refine bss_cons (bs_set 4 C.nd be_int) ?_
    refine bss_cons (env1 := [.v (.int n), .v (.list (fs.map d3)), .v (.list (cs.map d3)), .v (.int (areaZ cs).1), .v (.int (areaZ cs).2), .no, .no, .no, .no]) (bs_for (out := .nx [.v (.int n), .v (.list (fs.map d3)), .v (.list (cs.map d3)), .v (.int (areaZ cs).1), .v (.int (areaZ cs).2), .no, .no, .no, .no]) 5 C.hp C.calm C.nd (bi_rng1 T.z_range (be_len T.z_len (be_v 2 rfl).r) (by rw [List.length_map]; omega) (by rw [List.length_map]; omega)) ?lp) (bss_one (bs_ret (be_tup (ba_cons (be_v 3 rfl) (ba_cons (be_v 4 rfl) ba_nil)))))
    case lp =>
      rw [List.length_map]
      refine loop_foldJ (P := fun _ => True) (fun s => [.v (.int n), .v (.list (fs.map d3)), .v (.list (cs.map d3)), .v (.int s.1), .v (.int s.2), .no, .no, .no, .no]) (fun (i : Nat) => PyData.int (0 + (i : Int))) (fun s k => areaStep s (cs.getD (prv cs.length k) (0, 0, 0)) (cs.getD k (0, 0, 0))) (fun k s => Lw (100 + 43 * k) s.1 ∧ 0 < s.2 ∧ Lw (1 + 42 * k) s.2) 190 (fun _ => trivial) (List.range cs.length) 0 (0, 1) (by simp; omega) ⟨by unfold Lw; decide, by decide, by unfold Lw; decide⟩ ?_
      intro i s k hk hi hI
      have hk' : k < cs.length := by simpa using hk
      have hat := atI_k hk'
      have hap := atI_prv hk'
      have ha := hcb _ (getD_mem (z := ((0, 0, 0) : Z3)) (prv_lt hk'))
      have hb := hcb _ (getD_mem (z := ((0, 0, 0) : Z3)) hk')
      generalize cs.getD (prv cs.length k) (0, 0, 0) = a at hap ha ⊢
      generalize cs.getD k (0, 0, 0) = b at hat hb ⊢
      refine ⟨?_, areaStep_bd ha hb hI.1 hI.2.1 hI.2.2⟩
      obtain ⟨h1, h2, h3⟩ := hI
      have e1 : Lw (100 + 43 * i + 21) (s.1 * a.2.2) := lw_mul h1 ha.2.2
      have e2 : Lw (41 + 41 + 1) (a.1 * b.2.1 - b.1 * a.2.1) := lw_sub (lw_mul ha.1.1 hb.1.2.1) (lw_mul hb.1.1 ha.1.2.1)
      have e3 : Lw (1 + 42 * i + 21) (s.2 * a.2.2) := lw_mul h3 ha.2.2
      have e4 : Lw (1 + 42 * i + 21 + 21) (s.2 * a.2.2 * b.2.2) := lw_mul e3 hb.2.2
      have hpos : 0 < s.2 * a.2.2 * b.2.2 := Int.mul_pos (Int.mul_pos h2 ha.2.1) hb.2.1
      refine BSs.fg 5 (env1 := [.v (.int n), .v (.list (fs.map d3)), .v (.list (cs.map d3)), .v (.int (areaStep s a b).1), .v (.int (areaStep s a b).2), .v (.int (0 + (k : Int))), .no, .no, .no]) (BSs.fg 6 (env1 := [.v (.int n), .v (.list (fs.map d3)), .v (.list (cs.map d3)), .v (.int (areaStep s a b).1), .v (.int (areaStep s a b).2), .v (.int (0 + (k : Int))), .v (d3 a), .no, .no]) (BSs.fg 7 (env1 := [.v (.int n), .v (.list (fs.map d3)), .v (.list (cs.map d3)), .v (.int (areaStep s a b).1), .v (.int (areaStep s a b).2), .v (.int (0 + (k : Int))), .v (d3 a), .v (d3 b), .no]) (BSs.fg 8 (env1 := [.v (.int n), .v (.list (fs.map d3)), .v (.list (cs.map d3)), .v (.int (areaStep s a b).1), .v (.int (areaStep s a b).2), .v (.int (0 + (k : Int))), .v (d3 a), .v (d3 b), .v (.int (gcdN (s.1 * a.2.2 * b.2.2 + (a.1 * b.2.1 - b.1 * a.2.1) * s.2).natAbs (s.2 * a.2.2 * b.2.2)))]) ?_)))
      refine bss_cons (bs_set 6 C.nd (be_ix (be_v 2 rfl) (be_sub (be_v 5 rfl) be_int) hap)) ?_
      refine bss_cons (bs_set 7 C.nd (be_ix (be_v 2 rfl) (be_v 5 rfl) hat)) ?_
      refine bss_cons (bs_set 3 C.nd (be_add (be_mul (be_mul (be_v 3 rfl) (be_ixT (be_v 6 rfl) be_int rfl) (lw_cm h1 ha.2.2 (by omega) (by decide) (by omega))) (be_ixT (be_v 7 rfl) be_int rfl) (lw_cm e1 hb.2.2 (by omega) (by decide) (by omega))) (be_mul (be_sub (be_mul (be_ixT (be_v 6 rfl) be_int rfl) (be_ixT (be_v 7 rfl) be_int rfl) (lw_cm ha.1.1 hb.1.2.1 (by decide) (by decide) (by decide))) (be_mul (be_ixT (be_v 7 rfl) be_int rfl) (be_ixT (be_v 6 rfl) be_int rfl) (lw_cm hb.1.1 ha.1.2.1 (by decide) (by decide) (by decide)))) (be_v 4 rfl) (lw_cm e2 h3 (by decide) (by omega) (by omega))))) ?_
      refine bss_cons (bs_set 4 C.nd (be_mul (be_mul (be_v 4 rfl) (be_ixT (be_v 6 rfl) be_int rfl) (lw_cm h3 ha.2.2 (by omega) (by decide) (by omega))) (be_ixT (be_v 7 rfl) be_int rfl) (lw_cm e3 hb.2.2 (by omega) (by decide) (by omega)))) ?_
      unfold areaStep redZ
      have hd := red_div (m := s.1 * a.2.2 * b.2.2 + (a.1 * b.2.1 - b.1 * a.2.1) * s.2) hpos (e4.mono (by omega))
      show BSs _ _ _ _ [_, _, _, .v (.int (s.1 * a.2.2 * b.2.2 + (a.1 * b.2.1 - b.1 * a.2.1) * s.2)), .v (.int (s.2 * a.2.2 * b.2.2)), _, _, _, _] _
      generalize s.1 * a.2.2 * b.2.2 + (a.1 * b.2.1 - b.1 * a.2.1) * s.2 = m1 at hd ⊢
      generalize s.2 * a.2.2 * b.2.2 = b1 at hpos hd ⊢
      refine bss_cons (bs_set 8 C.nd (be_call G2 C.hr (by decide) (ba_cons (be_abs T.z_abs (be_v 3 rfl)) (ba_cons (be_v 4 rfl) ba_nil)) ⟨_, _, rfl, by omega, by omega, rfl⟩)) ?_
      refine bss_cons (bs_set 3 C.nd (be_fdiv (be_v 3 rfl) (be_v 8 rfl) (hd _))) ?_
      exact bss_one (bs_set 4 C.nd (be_fdiv (be_v 4 rfl) (be_v 8 rfl) (hd _)))
theorem m_Ground_init {C : Addr} (T : Top K mg c) (hC : mg "Ground" = some (.ref C)) : InS P w K mg base 3 "Ground" C (spI K C (c .size) (fun d => sizeChk d = false) (fun d n => d = .int n ∧ sizeChk d = true)) := by
  obtain ⟨f, fd, F, M⟩ := (T.t_Ground C hC).init
  have cl := (T.t_Ground C hC).cl
  refine ⟨⟨f, fd, ["self", "size"], ?_, M, F.binds fun _ _ _ _ _ _ us hl => match us, hl with | [_, _], _ => rfl⟩, hC⟩
  have G1 := d_need_size (P := P) (w := w) (base := base) T
  refine okI_def F sc_Ground_init rfl rfl (fun d n h => h.1) ?_ ?_
  · rintro cdv A outer s H E Z p d hb
    exact ⟨_, bss_er (bs_exprX (bx_call G1 Z.tk Z.hr (by decide) (ba_cons (be_v 1 rfl) ba_nil) ⟨_, rfl, by rw [hb]; rfl⟩))⟩
  · rintro cdv A outer s H E Z p n ⟨_, hs⟩
    exact bss_init cl (bs_expr (be_call G1 Z.hr (by decide) (ba_cons (be_v 1 rfl) ba_nil) ⟨_, rfl, by rw [if_pos hs]⟩))
def gPutV (mg : Str → Option Value) (c : Ee → Addr) : List Av → Rs → Prop := fun as r => ∃ (C p d : Addr) (n : Int) (rs : Rw) (x : D), as = [.g (gOf C p d n rs), .d x] ∧ mg "Ground" = some (.ref C) ∧ Rok rs ∧ ((fenceChk x = false ∧ r = .er (c .fence)) ∨ (fenceChk x = true ∧ (fncs rs).length = 16 ∧ r = .er (c .many)))
def gPutM (mg : Str → Option Value) : List Av → List Wc → D → List Wc → Prop := fun as ω r ω' => ∃ (C p d : Addr) (n : Int) (rs : Rw) (z : Z3), as = [.a p, .d (d3 z)] ∧ ω = [.g (gOf C p d n rs)] ∧ mg "Ground" = some (.ref C) ∧ Rok rs ∧ okF z = true ∧ (fncs rs).length < 16 ∧ r = .int rs.length ∧ ω' = [.g (gOf C p d n (rs ++ [some z]))]
theorem m_Ground_put {C : Addr} (T : Top K mg c) (hC : mg "Ground" = some (.ref C)) : MnS P w K mg base 3 C "put" (fun vs H Q E => spV K (gPutV mg c) vs H Q E ∨ spM K (gPutM mg) vs H Q E) := by
  obtain ⟨f, fd, F, M⟩ := (T.t_Ground C hC).m_put
  have G1 := d_need_fence (P := P) (w := w) (base := base) T
  obtain ⟨t1, hs1⟩ := T.g_MOST_FENCES
  refine ⟨⟨f, fd, ["self", "fence"], fn_or ?_ ?_, M, F.binds fun _ _ _ _ _ _ us hl => match us, hl with | [_, _], _ => rfl⟩, (T.t_Ground C hC).cl.cl, fun n c d => gl_no (by decide +kernel) (by decide +kernel) (by decide +kernel)⟩
  · refine okV_def F sc_Ground_put (fun as r ⟨_, _, _, _, _, _, h, _⟩ => by rw [h]; rfl) ?_
    rintro cdv A outer s H E Z as r ⟨C2, p, d, n, rs, x, rfl, hC2, hok, h⟩
    have cl := (T.t_Ground C2 hC2).cl
    rcases h with ⟨hx, rfl⟩ | ⟨hx, hl, rfl⟩
    · refine ⟨.er _ [.gnd (gOf C2 p d n rs), .v x], .er, ?_⟩
      exact bss_er (bs_exprX (bx_call G1 Z.tk Z.hr (by decide) (ba_cons (be_v 1 rfl) ba_nil) ⟨_, rfl, by rw [hx]; rfl⟩))
    · refine ⟨.er _ [.gnd (gOf C2 p d n rs), .v x], .er, ?_⟩
      refine bss_cons (bs_expr (be_call G1 Z.hr (by decide) (ba_cons (be_v 1 rfl) ba_nil) ⟨_, rfl, by rw [if_pos hx]⟩)) ?_
      refine bss_er (bs_ifT (bt_eqI (be_lenKept 0 rfl cl T.z_len) (be_glob hs1)) ?_ (bss_one (bs_raise T.es.many Z.calm Z.tk)))
      have e : (gOf C2 p d n rs).kv.length = (fncs rs).length := kvOf_len rs
      rw [e, hl]
      rfl
  · refine okM_def F sc_Ground_put (fun as ω d ω' ⟨_, _, _, _, _, _, h, _⟩ => by rw [h]; rfl) (fun as ω d ω' ⟨_, _, _, _, _, _, h, _⟩ g => by rw [h]; simp) ?_
    rintro cdv A outer s H E Z as ω r ω' ⟨C2, p, d, n, rs, z, rfl, rfl, hC2, hok, hz, hl, rfl, rfl⟩
    have cl := (T.t_Ground C2 hC2).cl
    have e : (gOf C2 p d n rs).kv.length = (fncs rs).length := kvOf_len rs
    refine wbs_cons (wb_lift (env1 := [.adr p, .v (d3 z)]) (bs_expr (be_call G1 Z.hr (by decide) (ba_cons (be_v 1 rfl) ba_nil) ⟨_, rfl, by rw [fenceChk_d3, if_pos hz]⟩))) ?_
    refine wbs_cons (wb_ifF (envv := [.gnd (gOf C2 p d n rs), .v (d3 z)]) (.cons (VwA.g (x := gOf C2 p d n rs) (by simp)) (.cons .v .nil)) (bt_eqI (be_lenKept 0 rfl cl T.z_len) (be_glob hs1)) (by rw [e]; exact decide_eq_false (by omega)) wbs_nil) ?_
    refine wbs_cons (wb_keptPut (g := gOf C2 p d n rs) 0 cl Z.u1 rfl (be_v 1 rfl) (List.Perm.refl _) ?_ (by rw [e]; exact Nat.lt_of_lt_of_le hl (by decide))) ?_
    · have := kvGet_of rs rs.length
      rw [rowAt_len] at this
      exact this
    refine wbs_cons (wb_camePut (n := (rs.length : Int) + 1) (envv := [.gnd { gOf C2 p d n rs with kv := kvOf rs ++ [((rs.length : Int), d3 z)] }, .v (d3 z)]) (g := { gOf C2 p d n rs with kv := kvOf rs ++ [((rs.length : Int), d3 z)] }) 0 cl (.cons (VwA.g (x := { gOf C2 p d n rs with kv := kvOf rs ++ [((rs.length : Int), d3 z)] }) List.mem_cons_self) (.cons .v .nil)) rfl ?_ (List.Perm.refl _)) ?_
    · exact be_add (be_came (g := { gOf C2 p d n rs with kv := kvOf rs ++ [((rs.length : Int), d3 z)] }) 0 rfl cl) be_int
    refine WBs.to (wbs_one (wb_ret (d := .int ((rs.length : Int) + 1 - 1)) (envv := [.gnd { gOf C2 p d n rs with kv := kvOf rs ++ [((rs.length : Int), d3 z)], came := (rs.length : Int) + 1 }, .v (d3 z)]) (.cons (VwA.g (x := { gOf C2 p d n rs with kv := kvOf rs ++ [((rs.length : Int), d3 z)], came := (rs.length : Int) + 1 }) List.mem_cons_self) (.cons .v .nil)) (be_sub (be_came (g := { gOf C2 p d n rs with kv := kvOf rs ++ [((rs.length : Int), d3 z)], came := (rs.length : Int) + 1 }) 0 rfl cl) be_int) rfl)) ?_
    have e2 : (rs.length : Int) + 1 - 1 = rs.length := by omega
    unfold gOf
    rw [kvOf_app, e2, List.length_append]
    rfl
def gTakeV (mg : Str → Option Value) (c : Ee → Addr) : List Av → Rs → Prop := fun as r => ∃ (C p d : Addr) (n : Int) (rs : Rw) (x : D), as = [.g (gOf C p d n rs), .d x] ∧ mg "Ground" = some (.ref C) ∧ (isWhole x = false ∨ ∃ k, x = .int k ∧ rowAt rs k = none) ∧ r = .er (c .nofence)
def gTakeM (mg : Str → Option Value) : List Av → List Wc → D → List Wc → Prop := fun as ω r ω' => ∃ (C p d : Addr) (n : Int) (rs : Rw) (k : Int) (z : Z3), as = [.a p, .d (.int k)] ∧ ω = [.g (gOf C p d n rs)] ∧ mg "Ground" = some (.ref C) ∧ rowAt rs k = some z ∧ r = d3 z ∧ ω' = [.g (gOf C p d n (rs.set k.toNat none))]
theorem m_Ground_take {C : Addr} (T : Top K mg c) (hC : mg "Ground" = some (.ref C)) : MnS P w K mg base 2 C "take" (fun vs H Q E => spV K (gTakeV mg c) vs H Q E ∨ spM K (gTakeM mg) vs H Q E) := by
  obtain ⟨f, fd, F, M⟩ := (T.t_Ground C hC).m_take
  have G1 := d_is_whole (P := P) (w := w) (base := base) T
  refine ⟨⟨f, fd, ["self", "number"], fn_or ?_ ?_, M, F.binds fun _ _ _ _ _ _ us hl => match us, hl with | [_, _], _ => rfl⟩, (T.t_Ground C hC).cl.cl, fun n c d => gl_no (by decide +kernel) (by decide +kernel) (by decide +kernel)⟩
  · refine okV_def F sc_Ground_take (fun as r ⟨_, _, _, _, _, _, h, _⟩ => by rw [h]; rfl) ?_
    rintro cdv A outer s H E Z as r ⟨C2, p, d, n, rs, x, rfl, hC2, h, rfl⟩
    have cl := (T.t_Ground C2 hC2).cl
    refine ⟨.er _ [.gnd (gOf C2 p d n rs), .v x], .er, ?_⟩
    rcases h with hx | ⟨k, rfl, hk⟩
    · exact bss_er (bs_ifT (bw_or (b2 := true) (bt_not (bt_val (be_call G1 Z.hr (by decide) (ba_cons (be_v 1 rfl) ba_nil) ⟨_, rfl, rfl⟩))) (fun q => by rw [hx] at q; cases q)).t (by rw [hx]; rfl) (bss_one (bs_raise T.es.nofence Z.calm Z.tk)))
    · refine bss_er (bs_ifT (bw_or (bt_not (bt_val (be_call G1 Z.hr (by decide) (ba_cons (be_v 1 rfl) ba_nil) ⟨_, rfl, rfl⟩))) (fun _ => bw_or1 (bt_notInKept (g := gOf C2 p d n rs) 0 rfl cl Z.u1 (be_v 1 rfl)))).t ?_ (bss_one (bs_raise T.es.nofence Z.calm Z.tk)))
      have e : kvGet (gOf C2 p d n rs).kv k = none := by
        have := kvGet_of rs k
        rw [hk] at this
        exact this
      rw [e]
      rfl
  · refine okM_def F sc_Ground_take (fun as ω d ω' ⟨_, _, _, _, _, _, _, h, _⟩ => by rw [h]; rfl) (fun as ω d ω' ⟨_, _, _, _, _, _, _, h, _⟩ g => by rw [h]; simp) ?_
    rintro cdv A outer s H E Z as ω r ω' ⟨C2, p, d, n, rs, k, z, rfl, rfl, hC2, hk, rfl, rfl⟩
    have cl := (T.t_Ground C2 hC2).cl
    have e : kvGet (gOf C2 p d n rs).kv k = some (d3 z) := by
      have := kvGet_of rs k
      rw [hk] at this
      exact this
    refine wbs_cons (wb_ifF (envv := [.gnd (gOf C2 p d n rs), .v (.int k)]) (.cons (VwA.g (x := gOf C2 p d n rs) (by simp)) (.cons .v .nil)) (bw_or (bt_not (bt_val (be_call G1 Z.hr (by decide) (ba_cons (be_v 1 rfl) ba_nil) ⟨_, rfl, rfl⟩))) (fun _ => bw_or1 (bt_notInKept (g := gOf C2 p d n rs) 0 rfl cl Z.u1 (be_v 1 rfl)))).t (by rw [e]; rfl) wbs_nil) ?_
    refine WBs.to (wbs_one (wb_retM (we_pop (g := gOf C2 p d n rs) 0 cl rfl (be_v 1 rfl) (List.Perm.refl _) e))) ?_
    have h0 := (rowAt_some hk).1
    unfold gOf
    rw [kvOf_set rs k h0, List.length_set]
def gStandV (mg : Str → Option Value) : List Av → Rs → Prop := fun as r => ∃ (C p d : Addr) (n : Int) (rs : Rw), as = [.g (gOf C p d n rs)] ∧ mg "Ground" = some (.ref C) ∧ Rok rs ∧ r = .fr ((stand rs).map sD)
theorem m_Ground_standing {C : Addr} (T : Top K mg c) (hC : mg "Ground" = some (.ref C)) : MnS P w K mg base 1 C "standing" (spV K (gStandV mg)) := by
  obtain ⟨f, fd, F, M⟩ := (T.t_Ground C hC).m_standing
  refine ⟨⟨f, fd, ["self"], ?_, M, F.binds fun _ _ _ _ _ _ us hl => match us, hl with | [_], _ => rfl⟩, (T.t_Ground C hC).cl.cl, fun n c d => gl_no (by decide +kernel) (by decide +kernel) (by decide +kernel)⟩
  refine okV_def F sc_Ground_standing (fun as r ⟨_, _, _, _, _, h, _⟩ => by rw [h]; rfl) ?_
  rintro cdv A outer s H E Z as r ⟨C2, p, d, n, rs, rfl, hC2, hok, rfl⟩
  have cl := (T.t_Ground C2 hC2).cl
  have hlen : (gOf C2 p d n rs).kv.length < 64 := by
    have e : (gOf C2 p d n rs).kv.length = (fncs rs).length := kvOf_len rs
    have := hok.few
    omega
  refine ⟨.rt (.fr _), .fr, bss_one (bs_ret (be_comp 1 (N := ["self", "number"]) (sc := defScope s_Ground_standing) (rs := (stand rs).map sD) Z.calm Z.nd (bi_list (BE.list (be_sortedKept 0 rfl cl Z.calm (kvOf_pw rs) hlen T.z_sorted))) (by decide +kernel) (show 1 < 2 by decide) ?_ ?_))⟩
  · have e : ((gOf C2 p d n rs).kv.map fun x => PyData.int x.1) = (stand rs).map (fun x => PyData.int x.1) := by
      show (kvOf rs).map _ = _
      unfold kvOf
      rw [List.map_map]
      rfl
    rw [e]
    refine comp_map (fun x : Int × Z3 => PyData.int x.1) sD _ fun x hx => ⟨fun _ _ _ _ _ => bif_nil, fun _ _ _ _ _ => ?_⟩
    exact be_tup (ds := [.int x.1, d3 x.2]) (ba_cons (be_v 1 rfl) (ba_cons (be_keptAt (g := gOf C2 p d n rs) 0 rfl cl Z.u1 (be_v 1 rfl) (stand_get hx)) ba_nil))
  · rw [List.length_map, stand_len]
    exact Nat.le_trans hok.few (by decide)
def gStretchV (mg : Str → Option Value) : List Av → Rs → Prop := fun as r => ∃ (C p d : Addr) (n : Int) (rs : Rw), as = [.g (gOf C p d n rs)] ∧ mg "Ground" = some (.ref C) ∧ Rok rs ∧ r = .fr ((fncs rs).map d3)
theorem m_Ground_stretch {C : Addr} (T : Top K mg c) (hC : mg "Ground" = some (.ref C)) : MnS P w K mg base 2 C "stretch" (spV K (gStretchV mg)) := by
  obtain ⟨f, fd, F, M⟩ := (T.t_Ground C hC).m_stretch
  refine ⟨⟨f, fd, ["self"], ?_, M, F.binds fun _ _ _ _ _ _ us hl => match us, hl with | [_], _ => rfl⟩, (T.t_Ground C hC).cl.cl, fun n c d => gl_no (by decide +kernel) (by decide +kernel) (by decide +kernel)⟩
  refine okV_def F sc_Ground_stretch (fun as r ⟨_, _, _, _, _, h, _⟩ => by rw [h]; rfl) ?_
  rintro cdv A outer s H E Z as r ⟨C2, p, d, n, rs, rfl, hC2, hok, rfl⟩
  have G1 := m_Ground_standing (P := P) (w := w) (base := base) T hC2
  refine ⟨.rt (.fr _), .fr, bss_one (bs_ret (be_comp 1 (N := ["self", "row"]) (sc := defScope s_Ground_stretch) (rs := (fncs rs).map d3) Z.calm Z.nd (bi_list (BE.list (be_methVF (g := gOf C2 p d n rs) (ds := (stand rs).map sD) G1 (fun _ _ _ _ h => h) Z.hr (by decide) (bg_v 0 rfl) ⟨C2, p, d, n, rs, rfl, hC2, hok, rfl⟩))) (by decide +kernel) (show 1 < 2 by decide) ?_ ?_))⟩
  · rw [← stand_fncs]
    refine comp_map sD (fun x : Int × Z3 => d3 x.2) _ fun x hx => ⟨fun _ _ _ _ _ => bif_nil, fun _ _ _ _ _ => ?_⟩
    exact be_ixT (ds := [.int x.1, d3 x.2]) (be_v 1 rfl) be_int rfl
  · rw [List.length_map]
    exact Nat.le_trans hok.few (by decide)
def gCornersV (mg : Str → Option Value) : List Av → Rs → Prop := fun as r => ∃ (C p d : Addr) (n : Int) (rs : Rw), as = [.g (gOf C p d n rs)] ∧ mg "Ground" = some (.ref C) ∧ Rok rs ∧ sizeChk (.int n) = true ∧ r = .fr ((cornersZ (rowsZ n (fncs rs))).map d3)
theorem m_Ground_corners {C : Addr} (T : Top K mg c) (hC : mg "Ground" = some (.ref C)) : MnS P w K mg base 6 C "corners" (spV K (gCornersV mg)) := by
  obtain ⟨f, fd, F, M⟩ := (T.t_Ground C hC).m_corners
  refine ⟨⟨f, fd, ["self"], ?_, M, F.binds fun _ _ _ _ _ _ us hl => match us, hl with | [_], _ => rfl⟩, (T.t_Ground C hC).cl.cl, fun n c d => gl_no (by decide +kernel) (by decide +kernel) (by decide +kernel)⟩
  refine okV_def F sc_Ground_corners (fun as r ⟨_, _, _, _, _, h, _⟩ => by rw [h]; rfl) ?_
  rintro cdv A outer s H E Z as r ⟨C2, p, d, n, rs, rfl, hC2, hok, hs, rfl⟩
  have cl := (T.t_Ground C2 hC2).cl
  have G1 := m_Ground_stretch (P := P) (w := w) (base := base) T hC2
  have G2 := d_corners_land (P := P) (w := w) (base := base) T
  exact ⟨.rt (.fr _), .fr, bss_one (bs_ret (be_callF G2 Z.hr (by decide) (ba_cons (be_size 0 rfl cl) (ba_cons (BE.list (be_methVF (g := gOf C2 p d n rs) (ds := (fncs rs).map d3) G1 (fun _ _ _ _ h => h) Z.hr (by decide) (bg_v 0 rfl) ⟨C2, p, d, n, rs, rfl, hC2, hok, rfl⟩)) ba_nil)) ⟨n, fncs rs, rfl, hs, hok.few, hok.ok, rfl⟩))⟩
def gAreaV (mg : Str → Option Value) : List Av → Rs → Prop := fun as r => ∃ (C p d : Addr) (n : Int) (rs : Rw), as = [.g (gOf C p d n rs)] ∧ mg "Ground" = some (.ref C) ∧ Rok rs ∧ sizeChk (.int n) = true ∧ r = .ok (d2 (areaZ (cornersZ (rowsZ n (fncs rs)))))
theorem m_Ground_area {C : Addr} (T : Top K mg c) (hC : mg "Ground" = some (.ref C)) : MnS P w K mg base 7 C "area" (spV K (gAreaV mg)) := by
  obtain ⟨f, fd, F, M⟩ := (T.t_Ground C hC).m_area
  refine ⟨⟨f, fd, ["self"], ?_, M, F.binds fun _ _ _ _ _ _ us hl => match us, hl with | [_], _ => rfl⟩, (T.t_Ground C hC).cl.cl, fun n c d => gl_no (by decide +kernel) (by decide +kernel) (by decide +kernel)⟩
  refine okV_def F sc_Ground_area (fun as r ⟨_, _, _, _, _, h, _⟩ => by rw [h]; rfl) ?_
  rintro cdv A outer s H E Z as r ⟨C2, p, d, n, rs, rfl, hC2, hok, hs, rfl⟩
  have cl := (T.t_Ground C2 hC2).cl
  have G1 := m_Ground_stretch (P := P) (w := w) (base := base) T hC2
  have G2 := d_twice_area (P := P) (w := w) (base := base) T
  exact ⟨.rt (.ok _), .ok, bss_one (bs_ret (be_call G2 Z.hr (by decide) (ba_cons (be_size 0 rfl cl) (ba_cons (BE.list (be_methVF (g := gOf C2 p d n rs) (ds := (fncs rs).map d3) G1 (fun _ _ _ _ h => h) Z.hr (by decide) (bg_v 0 rfl) ⟨C2, p, d, n, rs, rfl, hC2, hok, rfl⟩)) ba_nil)) ⟨n, fncs rs, rfl, hs, hok.few, hok.ok, rfl⟩))⟩
theorem d_L_cell_at (T : Top K mg c) : Dn P w K mg base 1 "_law_cell_at" (fun as r => ∃ (ns : List Int) (k : Int), as = [.list (ns.map .int), .int k] ∧ 0 ≤ k ∧ r = .ok (.int (cellAt ns k))) := by
  obtain ⟨f, fd, F, hm⟩ := T.f_L_cell_at.ex
  refine dn_def F sc_L_cell_at hm (F.binds fun _ _ _ _ _ _ us hl => match us, hl with | [_, _], _ => rfl) ?_ ?_
  · rintro as r ⟨ns, k, rfl, _⟩
    rfl
  · rintro cdv A outer s H E C as r ⟨ns, k, rfl, hk, rfl⟩
    by_cases h : k < ns.length
    · exact ⟨.rt (.ok _), .ok, bss_rt (bs_ifT (bt_lt (be_v 1 rfl) (be_len T.z_len (be_v 0 rfl).r)) (by simpa using h) (bss_one (bs_ret (be_ix (be_v 0 rfl) (be_v 1 rfl) (atI_cell hk h)))))⟩
    · have e : cellAt ns k = 0 := by
        unfold cellAt
        rw [List.getD_eq_getElem?_getD, List.getElem?_eq_none (by omega)]
        rfl
      rw [e]
      exact ⟨.rt (.ok _), .ok, bss_cons (bs_ifF (bt_lt (be_v 1 rfl) (be_len T.z_len (be_v 0 rfl).r)) (by simpa using h) bss_nil) (bss_one (bs_ret be_int))⟩
theorem d_L_whole (T : Top K mg c) : Dn P w K mg base 1 "_law_whole" (fun as r => ∃ d, as = [d] ∧ r = .ok (.bool (isWhole d))) := by
  obtain ⟨f, fd, F, hm⟩ := T.f_L_whole.ex
  refine dn_def F sc_L_whole hm (F.binds fun _ _ _ _ _ _ us hl => match us, hl with | [_], _ => rfl) ?_ ?_
  · rintro as r ⟨d, rfl, _⟩
    rfl
  · rintro cdv A outer s H E C as r ⟨d, rfl, rfl⟩
    refine ⟨_, .ok, bss_one (bs_ret ?_)⟩
    exact BE.to (be_and (be_isi T.z_isinstance T.z_int PyProof.Rows.boot_int (be_v 0 rfl).r (kit_int d)) (fun _ => be_one (be_not (be_isi T.z_isinstance T.z_bool PyProof.Rows.boot_bool (be_v 0 rfl).r (kit_bool d))))) (by rw [whole_eq])
theorem d_L_size_by (T : Top K mg c) : Dn P w K mg base 1 "_law_size_by" (fun as r => ∃ n : Int, as = [.int n] ∧ r = .ok (.int (sizeB n))) := by
  obtain ⟨f, fd, F, hm⟩ := T.f_L_size_by.ex
  refine dn_def F sc_L_size_by hm (F.binds fun _ _ _ _ _ _ us hl => match us, hl with | [_], _ => rfl) ?_ ?_
  · rintro as r ⟨n, rfl, _⟩
    rfl
  · rintro cdv A outer s H E C as r ⟨n, rfl, rfl⟩
    refine ⟨.rt (.ok _), .ok, ?_⟩
    unfold sizeB
    by_cases h : n / 12 % 5 = 1
    · rw [if_pos h]
      exact bss_rt (bs_ifT (bt_eqI (be_mod (be_div (be_v 0 rfl) be_int (by decide)) be_int (by decide)) be_int) (by simpa using h) (bss_one (bs_ret (be_add be_int (be_mod (be_div (be_v 0 rfl) be_int (by decide)) be_int (by decide))))))
    · rw [if_neg h]
      exact bss_cons (bs_ifF (bt_eqI (be_mod (be_div (be_v 0 rfl) be_int (by decide)) be_int (by decide)) be_int) (by simpa using h) bss_nil) (bss_one (bs_ret (be_add be_int (be_mod (be_v 0 rfl) be_int (by decide)))))
theorem d_L_fence_by (T : Top K mg c) : Dn P w K mg base 1 "_law_fence_by" (fun as r => ∃ n s : Int, as = [.int n, .int s] ∧ 1 ≤ s ∧ r = .ok (d3 (fenceB n s))) := by
  obtain ⟨f, fd, F, hm⟩ := T.f_L_fence_by.ex
  refine dn_def F sc_L_fence_by hm (F.binds fun _ _ _ _ _ _ us hl => match us, hl with | [_, _], _ => rfl) ?_ ?_
  · rintro as r ⟨n, s, rfl, _⟩
    rfl
  · rintro cdv A outer s H E C as r ⟨n, s, rfl, hs, rfl⟩
    refine ⟨.rt (.ok _), .ok, ?_⟩
    refine bss_cons (bs_set 2 C.nd (be_mod (be_mulS (be_v 0 rfl) be_int (.inr (by decide))) be_int (by decide))) ?_
    show BSs _ _ _ _ [.v (.int n), .v (.int s), .v (.int (farB n)), .no, .no, .no, .no] _
    refine bss_cons (bs_set 3 C.nd (be_sub (be_mod (be_v 2 rfl) be_int (by decide)) be_int)) ?_
    refine bss_cons (bs_set 4 C.nd (be_sub (be_mod (be_div (be_v 2 rfl) be_int (by decide)) be_int (by decide)) be_int)) ?_
    refine bss_cons (env1 := [.v (.int n), .v (.int s), .v (.int (farB n)), .v (.int (fA n)), .v (.int (fB n)), .no, .no]) ?_ ?_
    · by_cases h : farB n / 49 % 6 = 1 ∨ farB n / 49 % 6 = 3
      · refine BS.to (bs_ifT (bw_or (bt_eqI (be_mod (be_div (be_v 2 rfl) be_int (by decide)) be_int (by decide)) be_int) (fun _ => bw_or1 (bt_eqI (be_mod (be_div (be_v 2 rfl) be_int (by decide)) be_int (by decide)) be_int))).t (by simpa using h) (bss_cons (bs_set 3 C.nd (be_sub (be_mod (be_mod (be_mulS (be_v 0 rfl) be_int (.inr (by decide))) be_int (by decide)) be_int (by decide)) be_int)) (bss_one (bs_set 4 C.nd (be_sub (be_mod (be_mod (be_mulS (be_v 0 rfl) be_int (.inr (by decide))) be_int (by decide)) be_int (by decide)) be_int))))) ?_
        unfold fA fB
        rw [if_pos h, if_pos h]
        rfl
      · refine BS.to (bs_ifF (bw_or (bt_eqI (be_mod (be_div (be_v 2 rfl) be_int (by decide)) be_int (by decide)) be_int) (fun _ => bw_or1 (bt_eqI (be_mod (be_div (be_v 2 rfl) be_int (by decide)) be_int (by decide)) be_int))).t (by simpa using h) bss_nil) ?_
        unfold fA fB
        rw [if_neg h, if_neg h]
        rfl
    refine bss_cons (env1 := [.v (.int n), .v (.int s), .v (.int (farB n)), .v (.int (fA2 n)), .v (.int (fB n)), .no, .no]) ?_ ?_
    · by_cases h : fA n = 0 ∧ fB n = 0
      · refine BS.to (bs_ifT (bw_and (bt_eqI (be_v 3 rfl) be_int) (fun _ => bw_and1 (bt_eqI (be_v 4 rfl) be_int))).t (by simpa using h) (bss_one (bs_set 3 C.nd be_int))) ?_
        unfold fA2
        rw [if_pos h]
        rfl
      · refine BS.to (bs_ifF (bw_and (bt_eqI (be_v 3 rfl) be_int) (fun _ => bw_and1 (bt_eqI (be_v 4 rfl) be_int))).t (by simpa using h) bss_nil) ?_
        unfold fA2
        rw [if_neg h]
    have ha := fA2_bd n
    have hb := fB_bd n
    have hf : 0 ≤ farB n / 294 % 7 ∧ farB n / 294 % 7 < 7 := by omega
    have e1 : -(2 ^ 64) < fA2 n ∧ fA2 n < 2 ^ 64 := by omega
    have e2 : -(2 ^ 64) < fB n ∧ fB n < 2 ^ 64 := by omega
    refine bss_cons (bs_set 5 C.nd (be_mod (be_mulS (be_v 0 rfl) be_int (.inr (by decide))) be_int (by decide))) ?_
    show BSs _ _ _ _ [.v (.int n), .v (.int s), .v (.int (farB n)), .v (.int (fA2 n)), .v (.int (fB n)), .v (.int (moreB n)), .no] _
    refine bss_cons (bs_set 6 C.nd (be_add (be_add (be_mulS (be_v 3 rfl) (be_mod (be_v 5 rfl) (be_add (be_v 1 rfl) be_int) (by omega)) (.inl e1)) (be_mulS (be_v 4 rfl) (be_mod (be_div (be_v 5 rfl) be_int (by decide)) (be_add (be_v 1 rfl) be_int) (by omega)) (.inl e2))) (be_ix (ds := [0, 0, 0, 1, -1, 2, -3].map PyData.int) (BE.list (be_lst (ba_cons be_int (ba_cons be_int (ba_cons be_int (ba_cons be_int (ba_cons (be_neg be_int) (ba_cons be_int (ba_cons (be_neg be_int) ba_nil))))))) (by show 7 ≤ sizeLine; decide))) (be_mod (be_div (be_v 2 rfl) be_int (by decide)) be_int (by decide)) (atI_cell hf.1 (by show _ < ((7 : Nat) : Int); exact hf.2))))) ?_
    refine bss_cons (env1 := [.v (.int n), .v (.int s), .v (.int (farB n)), .v (.int (fA2 n)), .v (.int (fB n)), .v (.int (moreB n)), .v (.int (fC n s))]) ?_ ?_
    · by_cases h : farB n / 49 % 6 = 2 ∨ farB n / 49 % 6 = 3
      · refine BS.to (bs_ifT (bw_or (bt_eqI (be_mod (be_div (be_v 2 rfl) be_int (by decide)) be_int (by decide)) be_int) (fun _ => bw_or1 (bt_eqI (be_mod (be_div (be_v 2 rfl) be_int (by decide)) be_int (by decide)) be_int))).t (by simpa using h) (bss_one (bs_set 6 C.nd (be_sub (be_mod (be_v 5 rfl) be_int (by decide)) be_int)))) ?_
        unfold fC
        rw [if_pos h]
        rfl
      · refine BS.to (bs_ifF (bw_or (bt_eqI (be_mod (be_div (be_v 2 rfl) be_int (by decide)) be_int (by decide)) be_int) (fun _ => bw_or1 (bt_eqI (be_mod (be_div (be_v 2 rfl) be_int (by decide)) be_int (by decide)) be_int))).t (by simpa using h) bss_nil) ?_
        unfold fC
        rw [if_neg h]
        rfl
    exact bss_one (bs_ret (be_tup (ba_cons (be_v 3 rfl) (ba_cons (be_v 4 rfl) (ba_cons (be_max2 C.calm T.z_max (be_neg be_int) (be_min2 C.calm T.z_min be_int (be_v 6 rfl))) ba_nil)))))
/-- the word of each class -/
def nameE : Ee → Str
  | .land => ""
  | .size => "size "
  | .fence => "fence "
  | .many => "many "
  | .spot => "spot "
  | .way => "way "
  | .noland => "land "
  | .nofence => "none "
def nmR (c : Ee → Addr) : Addr → Str → Prop := fun D t => ∃ e : Ee, e ≠ .land ∧ D = c e ∧ t = nameE e
theorem d_L_names (T : Top K mg c) : Nn P w K mg base 1 "_law_names" (nmR c) := by
  obtain ⟨f, fd, F, hm⟩ := T.f_L_names.ex
  refine ⟨f, fd, ["_law_e"], fnN_of F sc_L_names (fun p vs H Q E ⟨D, txt, h, _⟩ => by rw [h]; rfl) ?_, hm, F.kp, F.binds fun _ _ _ _ _ _ us hl => match us, hl with | [_], _ => rfl⟩
  rintro p cdv A outer s H vs Q E ⟨D, txt, rfl, hz, hf, ⟨e, he, rfl, rfl⟩, hq⟩
  have hp : (p.1, p.2) ∈ (L2H.cxH CX0 P w K mg base ["_law_e", "_law_found"] "_law_names" (defScope s_L_names) f cdv A outer s H E p).pn := List.mem_cons_self
  have X1 := T.ei.ex e he
  have key : BSs (L2H.cxH CX0 P w K mg base ["_law_e", "_law_found"] "_law_names" (defScope s_L_names) f cdv A outer s H E p) (fun _ _ _ _ => False) TAll (defBody s_L_names) [.adr p.1, .no] (.rt (.ok (.str (nameE e)))) := by
    have one : ∀ e', e' ≠ .land → PySem.W.kitOne K (.ref (c e)) (.ref (c e')) = some (decide (e = e')) := fun e' h => T.ei.one e e' he h
    refine bss_cons (bs_set 1 sc_L_names.nd be_str) ?_
    cases e with
    | land => exact absurd rfl he
    | size =>
      refine bss_cons (bs_ifT (bt_val (be_isE 0 X1 hp hz hf rfl T.z_isinstance T.es.size.g (one .size (by decide)))) rfl (bss_one (bs_set 1 sc_L_names.nd (be_addStr (be_v 1 rfl) be_str (by decide +kernel))))) ?_
      refine bss_cons (bs_ifF (bt_val (be_isE 0 X1 hp hz hf rfl T.z_isinstance T.es.fence.g (one .fence (by decide)))) rfl bss_nil) ?_
      refine bss_cons (bs_ifF (bt_val (be_isE 0 X1 hp hz hf rfl T.z_isinstance T.es.many.g (one .many (by decide)))) rfl bss_nil) ?_
      refine bss_cons (bs_ifF (bt_val (be_isE 0 X1 hp hz hf rfl T.z_isinstance T.es.spot.g (one .spot (by decide)))) rfl bss_nil) ?_
      refine bss_cons (bs_ifF (bt_val (be_isE 0 X1 hp hz hf rfl T.z_isinstance T.es.way.g (one .way (by decide)))) rfl bss_nil) ?_
      refine bss_cons (bs_ifF (bt_val (be_isE 0 X1 hp hz hf rfl T.z_isinstance T.es.noland.g (one .noland (by decide)))) rfl bss_nil) ?_
      refine bss_cons (bs_ifF (bt_val (be_isE 0 X1 hp hz hf rfl T.z_isinstance T.es.nofence.g (one .nofence (by decide)))) rfl bss_nil) ?_
      refine bss_cons (bs_ifF (bt_not (bt_val (be_isEB 0 X1 hp hz hf rfl T.z_isinstance T.z_ValueError (by decide +kernel) (T.ei.val _ he)))) rfl bss_nil) ?_
      exact bss_one (bs_ret (be_v 1 rfl))
    | fence =>
      refine bss_cons (bs_ifF (bt_val (be_isE 0 X1 hp hz hf rfl T.z_isinstance T.es.size.g (one .size (by decide)))) rfl bss_nil) ?_
      refine bss_cons (bs_ifT (bt_val (be_isE 0 X1 hp hz hf rfl T.z_isinstance T.es.fence.g (one .fence (by decide)))) rfl (bss_one (bs_set 1 sc_L_names.nd (be_addStr (be_v 1 rfl) be_str (by decide +kernel))))) ?_
      refine bss_cons (bs_ifF (bt_val (be_isE 0 X1 hp hz hf rfl T.z_isinstance T.es.many.g (one .many (by decide)))) rfl bss_nil) ?_
      refine bss_cons (bs_ifF (bt_val (be_isE 0 X1 hp hz hf rfl T.z_isinstance T.es.spot.g (one .spot (by decide)))) rfl bss_nil) ?_
      refine bss_cons (bs_ifF (bt_val (be_isE 0 X1 hp hz hf rfl T.z_isinstance T.es.way.g (one .way (by decide)))) rfl bss_nil) ?_
      refine bss_cons (bs_ifF (bt_val (be_isE 0 X1 hp hz hf rfl T.z_isinstance T.es.noland.g (one .noland (by decide)))) rfl bss_nil) ?_
      refine bss_cons (bs_ifF (bt_val (be_isE 0 X1 hp hz hf rfl T.z_isinstance T.es.nofence.g (one .nofence (by decide)))) rfl bss_nil) ?_
      refine bss_cons (bs_ifF (bt_not (bt_val (be_isEB 0 X1 hp hz hf rfl T.z_isinstance T.z_ValueError (by decide +kernel) (T.ei.val _ he)))) rfl bss_nil) ?_
      exact bss_one (bs_ret (be_v 1 rfl))
    | many =>
      refine bss_cons (bs_ifF (bt_val (be_isE 0 X1 hp hz hf rfl T.z_isinstance T.es.size.g (one .size (by decide)))) rfl bss_nil) ?_
      refine bss_cons (bs_ifF (bt_val (be_isE 0 X1 hp hz hf rfl T.z_isinstance T.es.fence.g (one .fence (by decide)))) rfl bss_nil) ?_
      refine bss_cons (bs_ifT (bt_val (be_isE 0 X1 hp hz hf rfl T.z_isinstance T.es.many.g (one .many (by decide)))) rfl (bss_one (bs_set 1 sc_L_names.nd (be_addStr (be_v 1 rfl) be_str (by decide +kernel))))) ?_
      refine bss_cons (bs_ifF (bt_val (be_isE 0 X1 hp hz hf rfl T.z_isinstance T.es.spot.g (one .spot (by decide)))) rfl bss_nil) ?_
      refine bss_cons (bs_ifF (bt_val (be_isE 0 X1 hp hz hf rfl T.z_isinstance T.es.way.g (one .way (by decide)))) rfl bss_nil) ?_
      refine bss_cons (bs_ifF (bt_val (be_isE 0 X1 hp hz hf rfl T.z_isinstance T.es.noland.g (one .noland (by decide)))) rfl bss_nil) ?_
      refine bss_cons (bs_ifF (bt_val (be_isE 0 X1 hp hz hf rfl T.z_isinstance T.es.nofence.g (one .nofence (by decide)))) rfl bss_nil) ?_
      refine bss_cons (bs_ifF (bt_not (bt_val (be_isEB 0 X1 hp hz hf rfl T.z_isinstance T.z_ValueError (by decide +kernel) (T.ei.val _ he)))) rfl bss_nil) ?_
      exact bss_one (bs_ret (be_v 1 rfl))
    | spot =>
      refine bss_cons (bs_ifF (bt_val (be_isE 0 X1 hp hz hf rfl T.z_isinstance T.es.size.g (one .size (by decide)))) rfl bss_nil) ?_
      refine bss_cons (bs_ifF (bt_val (be_isE 0 X1 hp hz hf rfl T.z_isinstance T.es.fence.g (one .fence (by decide)))) rfl bss_nil) ?_
      refine bss_cons (bs_ifF (bt_val (be_isE 0 X1 hp hz hf rfl T.z_isinstance T.es.many.g (one .many (by decide)))) rfl bss_nil) ?_
      refine bss_cons (bs_ifT (bt_val (be_isE 0 X1 hp hz hf rfl T.z_isinstance T.es.spot.g (one .spot (by decide)))) rfl (bss_one (bs_set 1 sc_L_names.nd (be_addStr (be_v 1 rfl) be_str (by decide +kernel))))) ?_
      refine bss_cons (bs_ifF (bt_val (be_isE 0 X1 hp hz hf rfl T.z_isinstance T.es.way.g (one .way (by decide)))) rfl bss_nil) ?_
      refine bss_cons (bs_ifF (bt_val (be_isE 0 X1 hp hz hf rfl T.z_isinstance T.es.noland.g (one .noland (by decide)))) rfl bss_nil) ?_
      refine bss_cons (bs_ifF (bt_val (be_isE 0 X1 hp hz hf rfl T.z_isinstance T.es.nofence.g (one .nofence (by decide)))) rfl bss_nil) ?_
      refine bss_cons (bs_ifF (bt_not (bt_val (be_isEB 0 X1 hp hz hf rfl T.z_isinstance T.z_ValueError (by decide +kernel) (T.ei.val _ he)))) rfl bss_nil) ?_
      exact bss_one (bs_ret (be_v 1 rfl))
    | way =>
      refine bss_cons (bs_ifF (bt_val (be_isE 0 X1 hp hz hf rfl T.z_isinstance T.es.size.g (one .size (by decide)))) rfl bss_nil) ?_
      refine bss_cons (bs_ifF (bt_val (be_isE 0 X1 hp hz hf rfl T.z_isinstance T.es.fence.g (one .fence (by decide)))) rfl bss_nil) ?_
      refine bss_cons (bs_ifF (bt_val (be_isE 0 X1 hp hz hf rfl T.z_isinstance T.es.many.g (one .many (by decide)))) rfl bss_nil) ?_
      refine bss_cons (bs_ifF (bt_val (be_isE 0 X1 hp hz hf rfl T.z_isinstance T.es.spot.g (one .spot (by decide)))) rfl bss_nil) ?_
      refine bss_cons (bs_ifT (bt_val (be_isE 0 X1 hp hz hf rfl T.z_isinstance T.es.way.g (one .way (by decide)))) rfl (bss_one (bs_set 1 sc_L_names.nd (be_addStr (be_v 1 rfl) be_str (by decide +kernel))))) ?_
      refine bss_cons (bs_ifF (bt_val (be_isE 0 X1 hp hz hf rfl T.z_isinstance T.es.noland.g (one .noland (by decide)))) rfl bss_nil) ?_
      refine bss_cons (bs_ifF (bt_val (be_isE 0 X1 hp hz hf rfl T.z_isinstance T.es.nofence.g (one .nofence (by decide)))) rfl bss_nil) ?_
      refine bss_cons (bs_ifF (bt_not (bt_val (be_isEB 0 X1 hp hz hf rfl T.z_isinstance T.z_ValueError (by decide +kernel) (T.ei.val _ he)))) rfl bss_nil) ?_
      exact bss_one (bs_ret (be_v 1 rfl))
    | noland =>
      refine bss_cons (bs_ifF (bt_val (be_isE 0 X1 hp hz hf rfl T.z_isinstance T.es.size.g (one .size (by decide)))) rfl bss_nil) ?_
      refine bss_cons (bs_ifF (bt_val (be_isE 0 X1 hp hz hf rfl T.z_isinstance T.es.fence.g (one .fence (by decide)))) rfl bss_nil) ?_
      refine bss_cons (bs_ifF (bt_val (be_isE 0 X1 hp hz hf rfl T.z_isinstance T.es.many.g (one .many (by decide)))) rfl bss_nil) ?_
      refine bss_cons (bs_ifF (bt_val (be_isE 0 X1 hp hz hf rfl T.z_isinstance T.es.spot.g (one .spot (by decide)))) rfl bss_nil) ?_
      refine bss_cons (bs_ifF (bt_val (be_isE 0 X1 hp hz hf rfl T.z_isinstance T.es.way.g (one .way (by decide)))) rfl bss_nil) ?_
      refine bss_cons (bs_ifT (bt_val (be_isE 0 X1 hp hz hf rfl T.z_isinstance T.es.noland.g (one .noland (by decide)))) rfl (bss_one (bs_set 1 sc_L_names.nd (be_addStr (be_v 1 rfl) be_str (by decide +kernel))))) ?_
      refine bss_cons (bs_ifF (bt_val (be_isE 0 X1 hp hz hf rfl T.z_isinstance T.es.nofence.g (one .nofence (by decide)))) rfl bss_nil) ?_
      refine bss_cons (bs_ifF (bt_not (bt_val (be_isEB 0 X1 hp hz hf rfl T.z_isinstance T.z_ValueError (by decide +kernel) (T.ei.val _ he)))) rfl bss_nil) ?_
      exact bss_one (bs_ret (be_v 1 rfl))
    | nofence =>
      refine bss_cons (bs_ifF (bt_val (be_isE 0 X1 hp hz hf rfl T.z_isinstance T.es.size.g (one .size (by decide)))) rfl bss_nil) ?_
      refine bss_cons (bs_ifF (bt_val (be_isE 0 X1 hp hz hf rfl T.z_isinstance T.es.fence.g (one .fence (by decide)))) rfl bss_nil) ?_
      refine bss_cons (bs_ifF (bt_val (be_isE 0 X1 hp hz hf rfl T.z_isinstance T.es.many.g (one .many (by decide)))) rfl bss_nil) ?_
      refine bss_cons (bs_ifF (bt_val (be_isE 0 X1 hp hz hf rfl T.z_isinstance T.es.spot.g (one .spot (by decide)))) rfl bss_nil) ?_
      refine bss_cons (bs_ifF (bt_val (be_isE 0 X1 hp hz hf rfl T.z_isinstance T.es.way.g (one .way (by decide)))) rfl bss_nil) ?_
      refine bss_cons (bs_ifF (bt_val (be_isE 0 X1 hp hz hf rfl T.z_isinstance T.es.noland.g (one .noland (by decide)))) rfl bss_nil) ?_
      refine bss_cons (bs_ifT (bt_val (be_isE 0 X1 hp hz hf rfl T.z_isinstance T.es.nofence.g (one .nofence (by decide)))) rfl (bss_one (bs_set 1 sc_L_names.nd (be_addStr (be_v 1 rfl) be_str (by decide +kernel))))) ?_
      refine bss_cons (bs_ifF (bt_not (bt_val (be_isEB 0 X1 hp hz hf rfl T.z_isinstance T.z_ValueError (by decide +kernel) (T.ei.val _ he)))) rfl bss_nil) ?_
      exact bss_one (bs_ret (be_v 1 rfl))
  obtain ⟨t, h1, h2⟩ := key
  refine ⟨t, h1, h2 H H H H _ _ ⟨Gr.refl (Same.refl _), rfl, fun i x e => ?_, fun i j x y a e1 e2 h1 h2 e3 e4 => ?_⟩ fun v F' H' g hd => ?_⟩
  · match i, e with
    | 0, e => cases e; rfl
    | 1, e => cases e; trivial
    | i + 2, e => simp at e
  · match i, e1 with
    | 0, e => cases e; cases h1
    | 1, e => cases e; cases h1
    | i + 2, e => simp at e
  · rw [dp_str hd]
    exact hq H' g.h
theorem d_L_size_refused (T : Top K mg c) : Dn P w K mg base 5 "_law_size_refused" (fun as r => ∃ d, as = [d] ∧ sizeChk d = false ∧ r = .ok (.bool true)) := by
  obtain ⟨f, fd, F, hm⟩ := T.f_L_size_refused.ex
  refine dn_def F sc_L_size_refused hm (F.binds fun _ _ _ _ _ _ us hl => match us, hl with | [_], _ => rfl) ?_ ?_
  · rintro as r ⟨d, rfl, _⟩
    rfl
  · rintro cdv A outer s H E Z as r ⟨d, rfl, hb, rfl⟩
    obtain ⟨CG, hCG⟩ := T.o_Ground
    have G1 := m_Ground_init (P := P) (w := w) (base := base) T hCG
    have G2 := d_L_names (P := P) (w := w) (base := base) T
    refine ⟨.rt (.ok _), .ok, bss_rt (bs_tryEr (out := .rt (.ok (.bool true))) (env1 := [.v d, .no]) 1 T.es.land.g (T.ei.exm .size (by decide)) trivial (fun W' pn xe tk hp => ?_) (fun a oe pn hz hf => ?_) (fun _ _ z => nomatch z) Z.nd)⟩
    · exact bss_er (bs_exprX (bx_makeI G1 tk Z.hr (by decide) (be_v 0 rfl) hb))
    · exact bss_one (bs_ret (BE.to (be_eqS (be_callN 1 G2 Z.hr (by decide) rfl hz hf ⟨.size, by decide, rfl, rfl⟩) be_str) rfl))
def menuP (far : Int) : List D := [.tuple [.int 0, .int 0, .int (far % 9)], .tuple [.int (1001 + far % 1003), .int 0, .int 1], .tuple [.int 1, .int 2], .none, .tuple [.int 1, .bool true, .int 2], .list [.int 1, .int 2, .int 3], .tuple [.int 1, .int 2, .int 1000001], .tuple [.int 1, .int 2, .int 3, .int 4], .tuple [.none, .int 1, .int 2], .tuple [.int 1, .str "2", .int 3], .tuple [.int 1, .int 2, .none], .tuple [.int 0, .int (-1001 - far % 1003), .int 5], .tuple [.int 1, .int 2, .int (-1000001 - far % 1003)], .tuple [.bool false, .int 1, .int 2], .str "abc", .tuple []]
theorem menuP_bad {far : Int} : ∀ d, d ∈ menuP far → fenceChk d = false := by
  intro d hd
  have h1 : 0 ≤ far % 9 ∧ 0 ≤ far % 1003 := by omega
  simp only [menuP, List.mem_cons, List.not_mem_nil, or_false] at hd
  rcases hd with rfl | rfl | rfl | rfl | rfl | rfl | rfl | rfl | rfl | rfl | rfl | rfl | rfl | rfl | rfl | rfl
  · show okF (0, 0, far % 9) = false
    simp [okF]
  · show okF (1001 + far % 1003, 0, 1) = false
    simp [okF]
    omega
  · rfl
  · rfl
  · rfl
  · rfl
  · show okF (1, 2, 1000001) = false
    decide
  · rfl
  · rfl
  · rfl
  · rfl
  · show okF (0, -1001 - far % 1003, 5) = false
    simp [okF]
    omega
  · show okF (1, 2, -1000001 - far % 1003) = false
    simp [okF]
    omega
  · rfl
  · rfl
  · rfl
def gLputV (mg : Str → Option Value) : List Av → Rs → Prop := fun as r => ∃ (C p d : Addr) (n : Int) (rs : Rw) (cell m : Int), as = [.g (gOf C p d n rs), .d (.list (rs.map rwD)), .d (.int cell), .d (.int m)] ∧ mg "Ground" = some (.ref C) ∧ Rok rs ∧ 1 ≤ m ∧ (cell % 10 = 0 ∨ (cell % 10 ≠ 0 ∧ (fncs rs).length = 16)) ∧ r = .ok (.bool true)
def gLputM (mg : Str → Option Value) : List Av → List Wc → D → List Wc → Prop := fun as ω r ω' => ∃ (C p d q : Addr) (n : Int) (rs : Rw) (cell m : Int), as = [.a p, .a q, .d (.int cell), .d (.int m)] ∧ ω = [.g (gOf C p d n rs), .l q (rs.map rwD)] ∧ mg "Ground" = some (.ref C) ∧ Rok rs ∧ 1 ≤ m ∧ cell % 10 ≠ 0 ∧ (fncs rs).length < 16 ∧ r = .bool true ∧ ω' = [.g (gOf C p d n (rs ++ [some (fenceB (cell / 10) m)])), .l q ((rs ++ [some (fenceB (cell / 10) m)]).map rwD)]
theorem d_L_put (T : Top K mg c) : DnS P w K mg base 4 "_law_put" (fun vs H Q E => spV K (gLputV mg) vs H Q E ∨ spM K (gLputM mg) vs H Q E) := by
  obtain ⟨f, fd, F, hm⟩ := T.f_L_put.ex
  have Gfe := d_L_fence_by (P := P) (w := w) (base := base) T
  have Gw := d_L_whole (P := P) (w := w) (base := base) T
  have Gn := d_L_names (P := P) (w := w) (base := base) T
  refine ⟨f, fd, ["_law_ground", "_law_rows", "_law_cell", "_law_size"], fn_or ?_ ?_, hm, F.kp, F.binds fun _ _ _ _ _ _ us hl => match us, hl with | [_, _, _, _], _ => rfl⟩
  · refine okV_def F sc_L_put (fun as r ⟨_, _, _, _, _, _, _, h, _⟩ => by rw [h]; rfl) ?_
    rintro cdv A outer s H E Z as r ⟨C2, p, d, n, rs, cell, m, rfl, hC2, hok, hm1, hcase, rfl⟩
    have G1 := m_Ground_put (P := P) (w := w) (base := base) T hC2
    have hrl := hok.len
    refine ⟨.rt (.ok _), .ok, ?_⟩
    refine bss_cons (bs_set 4 Z.nd (be_call Gfe Z.hr (by decide) (ba_cons (be_div (be_v 2 rfl) be_int (by decide)) (ba_cons (be_v 3 rfl) ba_nil)) ⟨_, _, rfl, hm1, rfl⟩)) ?_
    refine bss_cons (bs_set 5 Z.nd be_str) ?_
    have hz := fenceB_ok (cell / 10) m
    generalize fenceB (cell / 10) m = z0 at hz ⊢
    suffices hh : ∃ (fx : D) (due : Str) (e0 : Ee), ((fenceChk fx = false ∧ due = "fence " ∧ e0 = .fence) ∨ (fenceChk fx = true ∧ (fncs rs).length = 16 ∧ due = "many " ∧ e0 = .many)) ∧ BS _ _ TAll _ [.gnd (gOf C2 p d n rs), .v (.list (rs.map rwD)), .v (.int cell), .v (.int m), .v (d3 z0), .v (.str ""), .no, .no, .no, .no, .no] (.nx [.gnd (gOf C2 p d n rs), .v (.list (rs.map rwD)), .v (.int cell), .v (.int m), .v fx, .v (.str due), .no, .no, .no, .no, .no]) by
      obtain ⟨fx, due, e0, hcs, hbs⟩ := hh
      refine bss_cons hbs ?_
      rcases hcs with ⟨h1, rfl, rfl⟩ | ⟨h1, h2, rfl, rfl⟩
      · refine bss_rt (bs_tryEr (out := .rt (.ok (.bool true))) (env1 := [.gnd (gOf C2 p d n rs), .v (.list (rs.map rwD)), .v (.int cell), .v (.int m), .v fx, .v (.str "fence "), .no, .no, .no, .no, .no]) 10 T.es.land.g (T.ei.exm .fence (by decide)) trivial (fun W' pn xe tk hp => ?_) (fun a oe pn hz hf => ?_) (fun _ _ z => nomatch z) Z.nd)
        · exact bss_er (bs_setX 9 Z.nd (bx_methV (g := gOf C2 p d n rs) (G := gPutV mg c) G1 (fun _ _ _ _ h => .inl h) tk Z.hr (by decide) (bg_v 0 rfl) (bv_d (be_v 4 rfl) bv_nil) ⟨C2, p, d, n, rs, fx, rfl, hC2, hok, .inl ⟨h1, rfl⟩⟩))
        · exact bss_one (bs_ret (BE.to (be_and (be_neS (be_v 5 rfl) be_str) (fun _ => be_one (be_eqS (be_callN 10 Gn Z.hr (by decide) rfl hz hf ⟨.fence, by decide, rfl, rfl⟩) (be_v 5 rfl)))) rfl))
      · refine bss_rt (bs_tryEr (out := .rt (.ok (.bool true))) (env1 := [.gnd (gOf C2 p d n rs), .v (.list (rs.map rwD)), .v (.int cell), .v (.int m), .v fx, .v (.str "many "), .no, .no, .no, .no, .no]) 10 T.es.land.g (T.ei.exm .many (by decide)) trivial (fun W' pn xe tk hp => ?_) (fun a oe pn hz hf => ?_) (fun _ _ z => nomatch z) Z.nd)
        · exact bss_er (bs_setX 9 Z.nd (bx_methV (g := gOf C2 p d n rs) (G := gPutV mg c) G1 (fun _ _ _ _ h => .inl h) tk Z.hr (by decide) (bg_v 0 rfl) (bv_d (be_v 4 rfl) bv_nil) ⟨C2, p, d, n, rs, fx, rfl, hC2, hok, .inr ⟨h1, h2, rfl⟩⟩))
        · exact bss_one (bs_ret (BE.to (be_and (be_neS (be_v 5 rfl) be_str) (fun _ => be_one (be_eqS (be_callN 10 Gn Z.hr (by decide) rfl hz hf ⟨.many, by decide, rfl, rfl⟩) (be_v 5 rfl)))) rfl))
    rcases hcase with h0 | ⟨h0, h16⟩
    · have hq : 0 ≤ cell / 10 % 16 ∧ cell / 10 % 16 < 16 := by omega
      refine ⟨(menuP (cell / 10)).getD (cell / 10 % 16).toNat .none, "fence ", .fence, .inl ⟨menuP_bad _ (getD_mem (by show _ < 16; omega)), rfl, rfl⟩, ?_⟩
      refine bs_ifT (bt_eqI (be_mod (be_v 2 rfl) be_int (by decide)) be_int) (by simpa using h0) ?_
      refine BSs.fg 6 (env1 := [.gnd (gOf C2 p d n rs), .v (.list (rs.map rwD)), .v (.int cell), .v (.int m), .v ((menuP (cell / 10)).getD (cell / 10 % 16).toNat .none), .v (.str "fence "), .v (.int (cell / 10)), .no, .no, .no, .no]) (BSs.fg 7 (env1 := [.gnd (gOf C2 p d n rs), .v (.list (rs.map rwD)), .v (.int cell), .v (.int m), .v ((menuP (cell / 10)).getD (cell / 10 % 16).toNat .none), .v (.str "fence "), .v (.int (cell / 10)), .v (.list (menuP (cell / 10))), .no, .no, .no]) ?_)
      refine bss_cons (bs_set 6 Z.nd (be_div (be_v 2 rfl) be_int (by decide))) ?_
      generalize cell / 10 = far at hq ⊢
      refine bss_cons (bs_set 7 Z.nd (BE.list (be_lst (ba_cons (be_tup (ba_cons be_int (ba_cons be_int (ba_cons (be_mod (be_v 6 rfl) be_int (by decide)) ba_nil)))) (ba_cons (be_tup (ba_cons (be_add be_int (be_mod (be_v 6 rfl) be_int (by decide))) (ba_cons be_int (ba_cons be_int ba_nil)))) (ba_cons (be_tup (ba_cons be_int (ba_cons be_int ba_nil))) (ba_cons be_non (ba_cons (be_tup (ba_cons be_int (ba_cons be_bl (ba_cons be_int ba_nil)))) (ba_cons (BE.list (be_lst (ba_cons be_int (ba_cons be_int (ba_cons be_int ba_nil))) (by show 3 ≤ sizeLine; decide))) (ba_cons (be_tup (ba_cons be_int (ba_cons be_int (ba_cons be_int ba_nil)))) ba_nil))))))) (by show 7 ≤ sizeLine; decide)))) ?_
      refine bss_cons (bs_set 7 Z.nd (BE.list (be_cat (be_v 7 rfl) (BE.list (be_lst (ba_cons (be_tup (ba_cons be_int (ba_cons be_int (ba_cons be_int (ba_cons be_int ba_nil))))) (ba_cons (be_tup (ba_cons be_non (ba_cons be_int (ba_cons be_int ba_nil)))) (ba_cons (be_tup (ba_cons be_int (ba_cons be_str (ba_cons be_int ba_nil)))) (ba_cons (be_tup (ba_cons be_int (ba_cons be_int (ba_cons be_non ba_nil)))) (ba_cons (be_tup (ba_cons be_int (ba_cons (be_sub (be_neg be_int) (be_mod (be_v 6 rfl) be_int (by decide))) (ba_cons be_int ba_nil)))) ba_nil))))) (by show 5 ≤ sizeLine; decide))) (by show 12 ≤ sizeLine; decide)))) ?_
      refine bss_cons (bs_set 7 Z.nd (BE.list (be_cat (be_v 7 rfl) (BE.list (be_lst (ba_cons (be_tup (ba_cons be_int (ba_cons be_int (ba_cons (be_sub (be_neg be_int) (be_mod (be_v 6 rfl) be_int (by decide))) ba_nil)))) (ba_cons (be_tup (ba_cons be_bl (ba_cons be_int (ba_cons be_int ba_nil)))) (ba_cons be_str (ba_cons (be_tup ba_nil) ba_nil)))) (by show 4 ≤ sizeLine; decide))) (by show 16 ≤ sizeLine; decide)))) ?_
      refine bss_cons (bs_set 4 Z.nd (be_ix (ds := menuP far) (be_v 7 rfl) (be_mod (be_v 6 rfl) be_int (by decide)) (atI_menu hq.1 (by show _ < ((16 : Nat) : Int); exact hq.2)))) ?_
      exact bss_one (bs_set 5 Z.nd be_str)
    · refine ⟨d3 z0, "many ", .many, .inr ⟨by rw [fenceChk_d3]; exact hz, h16, rfl, rfl⟩, ?_⟩
      refine bs_ifF (bt_eqI (be_mod (be_v 2 rfl) be_int (by decide)) be_int) (by simpa using h0) (bss_one (bs_ifT (bt_eqI (be_len T.z_len (BE.list (be_comp (ds := rs.map rwD) (rs := (fncs rs).map d3) 8 (N := ["_law_ground", "_law_rows", "_law_cell", "_law_size", "_law_fence", "_law_due", "_law_far", "_law_some", "_law_row", "_law_found", "_law_e"]) (sc := defScope s_L_put) Z.calm Z.nd (bi_list (be_v 1 rfl)) (by decide +kernel) (by show 8 < 11; decide) ?cp (by rw [List.length_map]; exact Nat.le_trans hok.few (by decide)))).r) be_int) (by rw [List.length_map, h16]; rfl) (bss_one (bs_set 5 Z.nd be_str))))
      case cp =>
        refine comp_fm rwD id d3 _ fun o ho => ⟨fun _ _ _ _ _ => bif_one ?_, fun y hy _ _ _ _ _ => ?_⟩
        · refine BT.to (bt_notN (be_v 8 rfl).r) ?_
          rw [isN_rwD]
          cases o <;> rfl
        · have e : o = some y := hy
          subst e
          exact be_v 8 rfl
  · refine okM_def F sc_L_put (fun as ω d ω' ⟨_, _, _, _, _, _, _, _, h, _⟩ => by rw [h]; rfl) (fun as ω d ω' ⟨_, _, _, _, _, _, _, _, h, _⟩ g => by rw [h]; simp) ?_
    rintro cdv A outer s H E Z as ω r ω' ⟨C2, p, d, q, n, rs, cell, m, rfl, rfl, hC2, hok, hm1, h0, hlt, rfl, rfl⟩
    have G1 := m_Ground_put (P := P) (w := w) (base := base) T hC2
    have hrl := hok.len
    refine wbs_cons (wb_lift (env1 := [.adr p, .adr q, .v (.int cell), .v (.int m), .v (d3 (fenceB (cell / 10) m)), .no, .no, .no, .no, .no, .no]) (bs_set 4 Z.nd (be_call Gfe Z.hr (by decide) (ba_cons (be_div (be_v 2 rfl) be_int (by decide)) (ba_cons (be_v 3 rfl) ba_nil)) ⟨_, _, rfl, hm1, rfl⟩))) ?_
    have hz := fenceB_ok (cell / 10) m
    generalize fenceB (cell / 10) m = z at hz ⊢
    refine wbs_cons (wb_lift (env1 := [.adr p, .adr q, .v (.int cell), .v (.int m), .v (d3 z), .v (.str ""), .no, .no, .no, .no, .no]) (bs_set 5 Z.nd be_str)) ?_
    refine wbs_cons (wb_ifF (envv := [.gnd (gOf C2 p d n rs), .v (.list (rs.map rwD)), .v (.int cell), .v (.int m), .v (d3 z), .v (.str ""), .no, .no, .no, .no, .no]) (.cons (VwA.g List.mem_cons_self) (.cons (VwA.l (by simp)) (.cons .v (.cons .v (.cons .v (.cons .v (.cons .no (.cons .no (.cons .no (.cons .no (.cons .no .nil))))))))))) (bt_eqI (be_mod (be_v 2 rfl) be_int (by decide)) be_int) (by simpa using h0) (wbs_one (wb_ifF (envv := [.gnd (gOf C2 p d n rs), .v (.list (rs.map rwD)), .v (.int cell), .v (.int m), .v (d3 z), .v (.str ""), .no, .no, .no, .no, .no]) (.cons (VwA.g List.mem_cons_self) (.cons (VwA.l (by simp)) (.cons .v (.cons .v (.cons .v (.cons .v (.cons .no (.cons .no (.cons .no (.cons .no (.cons .no .nil))))))))))) (bt_eqI (be_len T.z_len (BE.list (be_comp (ds := rs.map rwD) (rs := (fncs rs).map d3) 8 (N := ["_law_ground", "_law_rows", "_law_cell", "_law_size", "_law_fence", "_law_due", "_law_far", "_law_some", "_law_row", "_law_found", "_law_e"]) (sc := defScope s_L_put) Z.calm Z.nd (bi_list (be_v 1 rfl)) (by decide +kernel) (by show 8 < 11; decide) ?cp (by rw [List.length_map]; exact Nat.le_trans hok.few (by decide)))).r) be_int) (by rw [List.length_map]; exact decide_eq_false (by omega)) wbs_nil))) ?_
    case cp =>
      refine comp_fm rwD id d3 _ fun o ho => ⟨fun _ _ _ _ _ => bif_one ?_, fun y hy _ _ _ _ _ => ?_⟩
      · refine BT.to (bt_notN (be_v 8 rfl).r) ?_
        rw [isN_rwD]
        cases o <;> rfl
      · have e : o = some y := hy
        subst e
        exact be_v 8 rfl
    refine wbs_cons (env1 := [.adr p, .adr q, .v (.int cell), .v (.int m), .v (d3 z), .v (.str ""), .no, .no, .no, .v (.int rs.length), .no]) (ω1 := [.g (gOf C2 p d n (rs ++ [some z])), .l q (rs.map rwD)]) (wb_tryOk 10 T.es.land.g (fun pn xe hp => wbs_one (wb_set 9 Z.nd (we_methM (g := gOf C2 p d n rs) (G := gPutM mg) (ωc' := [.g (gOf C2 p d n (rs ++ [some z]))]) (ωr := [.l q (rs.map rwD)]) 0 G1 (fun _ _ _ _ h => .inr h) Z.hr (by decide) rfl (bv_d (be_v 4 rfl) bv_nil) (List.Perm.refl _) ⟨C2, p, d, n, rs, z, rfl, rfl, hC2, hok, hz, hlt, rfl, rfl⟩ rfl))) Z.nd) ?_
    have e9 : rs.map rwD ++ [d3 z] = (rs ++ [some z]).map rwD := by
      rw [List.map_append]
      rfl
    refine wbs_cons (ω1 := [.l q ((rs ++ [some z]).map rwD), .g (gOf C2 p d n (rs ++ [some z]))]) (WB.to (wb_append (ds := rs.map rwD) (ωr := [.g (gOf C2 p d n (rs ++ [some z]))]) 1 rfl (be_v 4 rfl) (List.Perm.swap _ _ _) (by rw [List.length_map]; exact Nat.lt_of_le_of_lt hrl (by decide))) (by rw [e9])) ?_
    refine WBs.permR (wbs_one (wb_ret (d := .bool true) (envv := [.no, .v (.list ((rs ++ [some z]).map rwD)), .v (.int cell), .v (.int m), .v (d3 z), .v (.str ""), .no, .no, .no, .v (.int rs.length), .no]) (.cons .no (.cons (VwA.l (by simp)) (.cons .v (.cons .v (.cons .v (.cons .v (.cons .no (.cons .no (.cons .no (.cons .v (.cons .no .nil))))))))))) (BE.to (be_and (be_eqS (be_v 5 rfl) be_str) (fun _ => be_and (be_call Gw Z.hr (by decide) (ba_cons (be_v 9 rfl) ba_nil) ⟨_, rfl, rfl⟩) (fun _ => be_one (be_eqI (be_v 9 rfl) (be_sub (be_len T.z_len (be_v 1 rfl).r) be_int))))) ?_) rfl)) (List.Perm.swap _ _ _)
    have e3 : decide ((rs.length : Int) = (((rs ++ [some z]).map rwD).length : Int) - 1) = true := decide_eq_true (by simp <;> omega)
    rw [e3]
    rfl
def menuT (len below : Int) : List D := [.int len, .int below, .bool true, .none, .str "0", .bool false, .int (len + 7), .list [.int 0], .dict []]
def numT (rs : Rw) (cell : Int) : D := if 0 < cell % 4 ∧ 0 < rs.length then .int (cell / 4 % (rs.length : Int)) else (menuT (rs.length : Int) (-1 - cell / 28 % ((rs.length : Int) + 2))).getD (cell / 4 % 9).toNat .none
theorem rowAt_far {rs : Rw} {k : Int} (h : (rs.length : Int) ≤ k ∨ k < 0) : rowAt rs k = none := by
  unfold rowAt
  split
  · rfl
  · rw [List.getElem?_eq_none (by omega)]
    rfl
theorem numT_bad {rs : Rw} {cell : Int} (h : ¬ (0 < cell % 4 ∧ 0 < rs.length ∧ rowAt rs (cell / 4 % (rs.length : Int)) ≠ none)) : isWhole (numT rs cell) = false ∨ ∃ k, numT rs cell = .int k ∧ rowAt rs k = none := by
  unfold numT
  by_cases h1 : 0 < cell % 4 ∧ 0 < rs.length
  · rw [if_pos h1]
    refine .inr ⟨_, rfl, ?_⟩
    by_cases h2 : rowAt rs (cell / 4 % (rs.length : Int)) = none
    · exact h2
    · exact absurd ⟨h1.1, h1.2, h2⟩ h
  · rw [if_neg h1]
    have hb : -1 - cell / 28 % ((rs.length : Int) + 2) < 0 := by
      have := Int.emod_nonneg (cell / 28) (b := (rs.length : Int) + 2) (by omega)
      omega
    have hq : (cell / 4 % 9).toNat < 9 := by omega
    have hm := getD_mem (xs := menuT (rs.length : Int) (-1 - cell / 28 % ((rs.length : Int) + 2))) (n := (cell / 4 % 9).toNat) (z := PyData.none) hq
    generalize (menuT (rs.length : Int) (-1 - cell / 28 % ((rs.length : Int) + 2))).getD (cell / 4 % 9).toNat .none = x at hm ⊢
    generalize -1 - cell / 28 % ((rs.length : Int) + 2) = below at hb hm
    simp only [menuT, List.mem_cons, List.not_mem_nil, or_false] at hm
    rcases hm with rfl | rfl | rfl | rfl | rfl | rfl | rfl | rfl | rfl
    · exact .inr ⟨_, rfl, rowAt_far (.inl (by omega))⟩
    · exact .inr ⟨_, rfl, rowAt_far (.inr hb)⟩
    · exact .inl rfl
    · exact .inl rfl
    · exact .inl rfl
    · exact .inl rfl
    · exact .inr ⟨_, rfl, rowAt_far (.inl (by omega))⟩
    · exact .inl rfl
    · exact .inl rfl
def goodT (len : Nat) : D → Bool
  | .int k => decide (0 ≤ k) && decide (k < (len : Int))
  | _ => false
theorem goodT_no {len : Nat} {x : D} (h : isWhole x = false) : goodT len x = false := by
  cases x with
  | int k => cases h
  | _ => rfl
theorem atI_row {rs : Rw} {k : Int} (h0 : 0 ≤ k) (h1 : k < rs.length) : atI (rs.map rwD) k = some (rwD (rowAt rs k)) := by
  have hk : k.toNat < rs.length := by omega
  have := atI_rw hk
  rw [show ((k.toNat : Nat) : Int) = k by omega] at this
  rw [this]
  unfold rowAt
  rw [if_neg (by omega)]
def gLtakeV (mg : Str → Option Value) : List Av → Rs → Prop := fun as r => ∃ (C p d : Addr) (n : Int) (rs : Rw) (cell : Int), as = [.g (gOf C p d n rs), .d (.list (rs.map rwD)), .d (.int cell)] ∧ mg "Ground" = some (.ref C) ∧ Rok rs ∧ ¬ (0 < cell % 4 ∧ 0 < rs.length ∧ rowAt rs (cell / 4 % (rs.length : Int)) ≠ none) ∧ r = .ok (.bool true)
def gLtakeM (mg : Str → Option Value) : List Av → List Wc → D → List Wc → Prop := fun as ω r ω' => ∃ (C p d q : Addr) (n : Int) (rs : Rw) (cell : Int) (z : Z3), as = [.a p, .a q, .d (.int cell)] ∧ ω = [.g (gOf C p d n rs), .l q (rs.map rwD)] ∧ mg "Ground" = some (.ref C) ∧ Rok rs ∧ 0 < cell % 4 ∧ 0 < rs.length ∧ rowAt rs (cell / 4 % (rs.length : Int)) = some z ∧ r = .bool true ∧ ω' = [.g (gOf C p d n (rs.set (cell / 4 % (rs.length : Int)).toNat none)), .l q ((rs.set (cell / 4 % (rs.length : Int)).toNat none).map rwD)]
theorem d_L_take (T : Top K mg c) : DnS P w K mg base 3 "_law_take" (fun vs H Q E => spV K (gLtakeV mg) vs H Q E ∨ spM K (gLtakeM mg) vs H Q E) := by
  obtain ⟨f, fd, F, hm⟩ := T.f_L_take.ex
  have Gw := d_L_whole (P := P) (w := w) (base := base) T
  have Gn := d_L_names (P := P) (w := w) (base := base) T
  refine ⟨f, fd, ["_law_ground", "_law_rows", "_law_cell"], fn_or ?_ ?_, hm, F.kp, F.binds fun _ _ _ _ _ _ us hl => match us, hl with | [_, _, _], _ => rfl⟩
  · refine okV_def F sc_L_take (fun as r ⟨_, _, _, _, _, _, h, _⟩ => by rw [h]; rfl) ?_
    rintro cdv A outer s H E Z as r ⟨C2, p, d, n, rs, cell, rfl, hC2, hok, hbad, rfl⟩
    have G1 := m_Ground_take (P := P) (w := w) (base := base) T hC2
    have hlen : (((rs.map rwD).length : Nat) : Int) = (rs.length : Int) := by rw [List.length_map]
    have hq : 0 ≤ cell / 4 % 9 ∧ cell / 4 % 9 < 9 := by omega
    have hnb := numT_bad hbad
    refine ⟨.rt (.ok _), .ok, ?_⟩
    refine bss_cons (env1 := [.gnd (gOf C2 p d n rs), .v (.list (rs.map rwD)), .v (.int cell), .v (.int (-1 - cell / 28 % ((rs.length : Int) + 2))), .no, .no, .no, .no]) (BS.to (bs_set 3 Z.nd (be_sub (be_neg be_int) (be_mod (be_div (be_v 2 rfl) be_int (by decide)) (be_add (be_len T.z_len (be_v 1 rfl).r) be_int) (by rw [hlen]; omega)))) (by rw [hlen]; rfl)) ?_
    refine bss_cons (env1 := [.gnd (gOf C2 p d n rs), .v (.list (rs.map rwD)), .v (.int cell), .v (.int (-1 - cell / 28 % ((rs.length : Int) + 2))), .v ((menuT (rs.length : Int) (-1 - cell / 28 % ((rs.length : Int) + 2))).getD (cell / 4 % 9).toNat .none), .no, .no, .no]) (BS.to (bs_set 4 Z.nd (be_ix (ds := menuT (((rs.map rwD).length : Nat) : Int) (-1 - cell / 28 % ((rs.length : Int) + 2))) (BE.list (be_lst (ba_cons (be_len T.z_len (be_v 1 rfl).r) (ba_cons (be_v 3 rfl) (ba_cons be_bl (ba_cons be_non (ba_cons be_str (ba_cons be_bl (ba_cons (be_add (be_len T.z_len (be_v 1 rfl).r) be_int) (ba_cons (BE.list (be_lst (ba_cons be_int ba_nil) (by show 1 ≤ sizeLine; decide))) (ba_cons be_dict ba_nil))))))))) (by show 9 ≤ sizeLine; decide))) (be_mod (be_div (be_v 2 rfl) be_int (by decide)) be_int (by decide)) (atI_menu hq.1 (by show _ < ((9 : Nat) : Int); exact hq.2)))) (by rw [hlen]; rfl)) ?_
    refine bss_cons (env1 := [.gnd (gOf C2 p d n rs), .v (.list (rs.map rwD)), .v (.int cell), .v (.int (-1 - cell / 28 % ((rs.length : Int) + 2))), .v (numT rs cell), .no, .no, .no]) ?_ ?_
    · unfold numT
      by_cases h1 : 0 < cell % 4 ∧ 0 < rs.length
      · rw [if_pos h1]
        refine BS.to (bs_ifT (bw_and (bt_gt (be_mod (be_v 2 rfl) be_int (by decide)) be_int) (fun _ => bw_and1 (bt_gt (be_len T.z_len (be_v 1 rfl).r) be_int))).t (by rw [hlen, ← Bool.decide_and]; exact decide_eq_true (by omega)) (bss_one (bs_set 4 Z.nd (be_mod (be_div (be_v 2 rfl) be_int (by decide)) (be_len T.z_len (be_v 1 rfl).r) (by rw [hlen]; omega))))) ?_
        rw [hlen]
        rfl
      · rw [if_neg h1]
        exact bs_ifF (bw_and (bt_gt (be_mod (be_v 2 rfl) be_int (by decide)) be_int) (fun _ => bw_and1 (bt_gt (be_len T.z_len (be_v 1 rfl).r) be_int))).t (by rw [hlen, ← Bool.decide_and]; exact decide_eq_false (by omega)) bss_nil
    generalize numT rs cell = x at hnb ⊢
    generalize -1 - cell / 28 % ((rs.length : Int) + 2) = below
    refine bss_cons (env1 := [.gnd (gOf C2 p d n rs), .v (.list (rs.map rwD)), .v (.int cell), .v (.int below), .v x, .v (.bool (goodT rs.length x)), .no, .no]) ?_ ?_
    · by_cases hx : isWhole x = true
      · obtain ⟨k, rfl⟩ := int_of hx
        refine BS.to (bs_set 5 Z.nd (be_and (be_call Gw Z.hr (by decide) (ba_cons (be_v 4 rfl) ba_nil) ⟨_, rfl, rfl⟩) (fun _ => be_one (be_chain op_le op_lt be_int.r (be_v 4 rfl).r (be_len T.z_len (be_v 1 rfl).r).r (s_I0 rfl) (s_I0 rfl))))) ?_
        rw [hlen]
        rfl
      · have hx' : isWhole x = false := by simpa using hx
        refine BS.to (bs_set 5 Z.nd (be_and (b1 := false) (b2 := false) (BE.to (be_call Gw Z.hr (by decide) (ba_cons (be_v 4 rfl) ba_nil) ⟨_, rfl, rfl⟩) (by rw [hx'])) (fun q => nomatch q))) ?_
        rw [goodT_no hx']
        rfl
    refine bss_cons (env1 := [.gnd (gOf C2 p d n rs), .v (.list (rs.map rwD)), .v (.int cell), .v (.int below), .v x, .v (.bool false), .no, .no]) ?_ ?_
    · by_cases hx : isWhole x = true
      · obtain ⟨k, rfl⟩ := int_of hx
        have hk : rowAt rs k = none := by
          rcases hnb with h | ⟨k2, h, h2⟩
          · cases h
          · cases h
            exact h2
        show BS _ _ _ _ [_, _, _, _, _, .v (.bool (decide (0 ≤ k) && decide (k < (rs.length : Int)))), _, _] _
        by_cases hr : 0 ≤ k ∧ k < (rs.length : Int)
        · rw [decide_eq_true hr.1, decide_eq_true hr.2]
          refine BS.to (bs_ifT (bt_val (be_v 5 rfl)) rfl (bss_one (bs_set 5 Z.nd (be_notN (be_ix (be_v 1 rfl) (be_v 4 rfl) (atI_row hr.1 hr.2)).r)))) ?_
          rw [hk]
          rfl
        · have e : (decide (0 ≤ k) && decide (k < (rs.length : Int))) = false := by
            rw [← Bool.decide_and]
            exact decide_eq_false hr
          rw [e]
          exact bs_ifF (bt_val (be_v 5 rfl)) rfl bss_nil
      · have hx' : isWhole x = false := by simpa using hx
        rw [goodT_no hx']
        exact bs_ifF (bt_val (be_v 5 rfl)) rfl bss_nil
    refine bss_rt (bs_tryEr (out := .rt (.ok (.bool true))) (env1 := [.gnd (gOf C2 p d n rs), .v (.list (rs.map rwD)), .v (.int cell), .v (.int below), .v x, .v (.bool false), .no, .no]) 7 T.es.land.g (T.ei.exm .nofence (by decide)) trivial (fun W' pn xe tk hp => ?_) (fun a oe pn hz hf => ?_) (fun _ _ z => nomatch z) Z.nd)
    · exact bss_er (bs_setX 6 Z.nd (bx_methV (g := gOf C2 p d n rs) (G := gTakeV mg c) G1 (fun _ _ _ _ h => .inl h) tk Z.hr (by decide) (bg_v 0 rfl) (bv_d (be_v 4 rfl) bv_nil) ⟨C2, p, d, n, rs, x, rfl, hC2, hnb, rfl⟩))
    · exact bss_one (bs_ret (BE.to (be_and (be_not (be_v 5 rfl)) (fun _ => be_one (be_eqS (be_callN 7 Gn Z.hr (by decide) rfl hz hf ⟨.nofence, by decide, rfl, rfl⟩) be_str))) rfl))
  · refine okM_def F sc_L_take (fun as ω d ω' ⟨_, _, _, _, _, _, _, _, h, _⟩ => by rw [h]; rfl) (fun as ω d ω' ⟨_, _, _, _, _, _, _, _, h, _⟩ g => by rw [h]; simp) ?_
    rintro cdv A outer s H E Z as ω r ω' ⟨C2, p, d, q, n, rs, cell, z, rfl, rfl, hC2, hok, h1, h2, hrow, rfl, rfl⟩
    have G1 := m_Ground_take (P := P) (w := w) (base := base) T hC2
    have hlen : (((rs.map rwD).length : Nat) : Int) = (rs.length : Int) := by rw [List.length_map]
    have hq : 0 ≤ cell / 4 % 9 ∧ cell / 4 % 9 < 9 := by omega
    obtain ⟨hk0, hk1, hkz⟩ := rowAt_some hrow
    refine wbs_cons (env1 := [.adr p, .adr q, .v (.int cell), .v (.int (-1 - cell / 28 % ((rs.length : Int) + 2))), .no, .no, .no, .no]) (WB.to (wb_setA (envv := [.no, .v (.list (rs.map rwD)), .v (.int cell), .no, .no, .no, .no, .no]) 3 Z.nd (.cons .no (.cons (VwA.l (by simp)) (.cons .v (.cons .no (.cons .no (.cons .no (.cons .no (.cons .no .nil)))))))) (be_sub (be_neg be_int) (be_mod (be_div (be_v 2 rfl) be_int (by decide)) (be_add (be_len T.z_len (be_v 1 rfl).r) be_int) (by rw [hlen]; omega))) rfl) (by rw [hlen]; rfl)) ?_
    refine wbs_cons (env1 := [.adr p, .adr q, .v (.int cell), .v (.int (-1 - cell / 28 % ((rs.length : Int) + 2))), .no, .no, .no, .no]) (wb_setNo (envv := [.no, .v (.list (rs.map rwD)), .v (.int cell), .v (.int (-1 - cell / 28 % ((rs.length : Int) + 2))), .no, .no, .no, .no]) 4 Z.nd (.cons .no (.cons (VwA.l (by simp)) (.cons .v (.cons .v (.cons .no (.cons .no (.cons .no (.cons .no .nil)))))))) (be_ix (ds := menuT (((rs.map rwD).length : Nat) : Int) (-1 - cell / 28 % ((rs.length : Int) + 2))) (BE.list (be_lst (ba_cons (be_len T.z_len (be_v 1 rfl).r) (ba_cons (be_v 3 rfl) (ba_cons be_bl (ba_cons be_non (ba_cons be_str (ba_cons be_bl (ba_cons (be_add (be_len T.z_len (be_v 1 rfl).r) be_int) (ba_cons (BE.list (be_lst (ba_cons be_int ba_nil) (by show 1 ≤ sizeLine; decide))) (ba_cons be_dict ba_nil))))))))) (by show 9 ≤ sizeLine; decide))) (be_mod (be_div (be_v 2 rfl) be_int (by decide)) be_int (by decide)) (atI_menu hq.1 (by show _ < ((9 : Nat) : Int); exact hq.2)))) ?_
    refine wbs_cons (env1 := [.adr p, .adr q, .v (.int cell), .v (.int (-1 - cell / 28 % ((rs.length : Int) + 2))), .v (.int (cell / 4 % (rs.length : Int))), .no, .no, .no]) (wb_ifT (envv := [.no, .v (.list (rs.map rwD)), .v (.int cell), .v (.int (-1 - cell / 28 % ((rs.length : Int) + 2))), .no, .no, .no, .no]) (.cons .no (.cons (VwA.l (by simp)) (.cons .v (.cons .v (.cons .no (.cons .no (.cons .no (.cons .no .nil)))))))) (bw_and (bt_gt (be_mod (be_v 2 rfl) be_int (by decide)) be_int) (fun _ => bw_and1 (bt_gt (be_len T.z_len (be_v 1 rfl).r) be_int))).t (by rw [hlen, ← Bool.decide_and]; exact decide_eq_true (by omega)) (wbs_one (WB.to (wb_setA (envv := [.no, .v (.list (rs.map rwD)), .v (.int cell), .v (.int (-1 - cell / 28 % ((rs.length : Int) + 2))), .no, .no, .no, .no]) 4 Z.nd (.cons .no (.cons (VwA.l (by simp)) (.cons .v (.cons .v (.cons .no (.cons .no (.cons .no (.cons .no .nil)))))))) (be_mod (be_div (be_v 2 rfl) be_int (by decide)) (be_len T.z_len (be_v 1 rfl).r) (by rw [hlen]; omega)) rfl) (by rw [hlen]; rfl)))) ?_
    generalize -1 - cell / 28 % ((rs.length : Int) + 2) = below
    generalize cell / 4 % (rs.length : Int) = k at hrow hk0 hk1 hkz ⊢
    have hat : atI (rs.map rwD) k = some (d3 z) := by
      have := atI_row hk0 hk1
      rw [hrow] at this
      exact this
    refine wbs_cons (env1 := [.adr p, .adr q, .v (.int cell), .v (.int below), .v (.int k), .v (.bool true), .no, .no]) (WB.to (wb_setA (envv := [.no, .v (.list (rs.map rwD)), .v (.int cell), .v (.int below), .v (.int k), .no, .no, .no]) 5 Z.nd (.cons .no (.cons (VwA.l (by simp)) (.cons .v (.cons .v (.cons .v (.cons .no (.cons .no (.cons .no .nil)))))))) (be_and (be_call Gw Z.hr (by decide) (ba_cons (be_v 4 rfl) ba_nil) ⟨_, rfl, rfl⟩) (fun _ => be_one (be_chain op_le op_lt be_int.r (be_v 4 rfl).r (be_len T.z_len (be_v 1 rfl).r).r (s_I0 rfl) (s_I0 rfl)))) rfl) (by rw [hlen, decide_eq_true hk0, decide_eq_true hk1]; rfl)) ?_
    refine wbs_cons (env1 := [.adr p, .adr q, .v (.int cell), .v (.int below), .v (.int k), .v (.bool true), .no, .no]) (wb_ifT (envv := [.no, .v (.list (rs.map rwD)), .v (.int cell), .v (.int below), .v (.int k), .v (.bool true), .no, .no]) (.cons .no (.cons (VwA.l (by simp)) (.cons .v (.cons .v (.cons .v (.cons .v (.cons .no (.cons .no .nil)))))))) (bt_val (be_v 5 rfl)) rfl (wbs_one (wb_setA (d := .bool true) (envv := [.no, .v (.list (rs.map rwD)), .v (.int cell), .v (.int below), .v (.int k), .v (.bool true), .no, .no]) 5 Z.nd (.cons .no (.cons (VwA.l (by simp)) (.cons .v (.cons .v (.cons .v (.cons .v (.cons .no (.cons .no .nil)))))))) (BE.to (be_notN (be_ix (d := d3 z) (be_v 1 rfl) (be_v 4 rfl) hat).r) rfl) rfl))) ?_
    refine wbs_cons (env1 := [.adr p, .adr q, .v (.int cell), .v (.int below), .v (.int k), .v (.bool true), .v (d3 z), .no]) (ω1 := [.g (gOf C2 p d n (rs.set k.toNat none)), .l q (rs.map rwD)]) (wb_tryOk 7 T.es.land.g (fun pn xe hp => wbs_one (wb_set 6 Z.nd (we_methM (g := gOf C2 p d n rs) (G := gTakeM mg) (ωc' := [.g (gOf C2 p d n (rs.set k.toNat none))]) (ωr := [.l q (rs.map rwD)]) 0 G1 (fun _ _ _ _ h => .inr h) Z.hr (by decide) rfl (bv_d (be_v 4 rfl) bv_nil) (List.Perm.refl _) ⟨C2, p, d, n, rs, k, z, rfl, rfl, hC2, hrow, rfl, rfl⟩ rfl))) Z.nd) ?_
    refine wbs_cons (env1 := [.adr p, .adr q, .v (.int cell), .v (.int below), .v (.int k), .v (.bool true), .v (d3 z), .no]) (wb_ifF (envv := [.no, .v (.list (rs.map rwD)), .v (.int cell), .v (.int below), .v (.int k), .v (.bool true), .v (d3 z), .no]) (.cons .no (.cons (VwA.l (by simp)) (.cons .v (.cons .v (.cons .v (.cons .v (.cons .v (.cons .no .nil)))))))) (bw_or (bt_not (bt_val (be_v 5 rfl))) (fun _ => bw_or (bt_not (bt_val (be_isi T.z_isinstance T.z_tuple PyProof.Rows.boot_tuple (be_v 6 rfl).r (kit_tuple (d3 z))))) (fun _ => bw_or1 (bt_neD Z.u (be_v 6 rfl).r (be_ix (d := d3 z) (be_v 1 rfl) (be_v 4 rfl) hat).r (d3_shaped _) (d3_shaped _))))).t (by rw [eqv_d3, decide_eq_true rfl]; rfl) wbs_nil) ?_
    have e9 : (rs.map rwD).set k.toNat .none = (rs.set k.toNat none).map rwD := by
      rw [List.map_set]
      rfl
    refine wbs_cons (ω1 := [.l q ((rs.set k.toNat none).map rwD), .g (gOf C2 p d n (rs.set k.toNat none))]) (WB.to (wb_setAt (ds := rs.map rwD) (d := .none) (j := k.toNat) (ωr := [.g (gOf C2 p d n (rs.set k.toNat none))]) 1 rfl (be_v 4 rfl) be_non (List.Perm.swap _ _ _) ?hj) (by rw [e9])) ?_
    case hj =>
      rw [List.length_map]
      unfold ixN
      rw [if_pos hk0, if_pos hk1]
    exact WBs.permR (wbs_one (wb_ret (d := .bool true) (envv := [.no, .no, .no, .no, .no, .no, .no, .no]) (.cons .no (.cons .no (.cons .no (.cons .no (.cons .no (.cons .no (.cons .no (.cons .no .nil)))))))) be_bl rfl)) (List.Perm.swap _ _ _)
def gLstV (mg : Str → Option Value) : List Av → Rs → Prop := fun as r => ∃ (C p d : Addr) (n : Int) (rs : Rw), as = [.g (gOf C p d n rs), .d (.list (rs.map rwD))] ∧ mg "Ground" = some (.ref C) ∧ Rok rs ∧ r = .ok (.bool true)
theorem d_L_standing (T : Top K mg c) : DnS P w K mg base 2 "_law_standing" (spV K (gLstV mg)) := by
  obtain ⟨f, fd, F, hm⟩ := T.f_L_standing.ex
  refine ⟨f, fd, ["_law_ground", "_law_rows"], ?_, hm, F.kp, F.binds fun _ _ _ _ _ _ us hl => match us, hl with | [_, _], _ => rfl⟩
  refine okV_def F sc_L_standing (fun as r ⟨_, _, _, _, _, h, _⟩ => by rw [h]; rfl) ?_
  rintro cdv A outer s H E Z as r ⟨C2, p, d, n, rs, rfl, hC2, hok, rfl⟩
  have G1 := m_Ground_standing (P := P) (w := w) (base := base) T hC2
  have Gw := d_L_whole (P := P) (w := w) (base := base) T
  have hG : gStandV mg [.g (gOf C2 p d n rs)] (.fr ((stand rs).map sD)) := ⟨C2, p, d, n, rs, rfl, hC2, hok, rfl⟩
  have hlen : ((stand rs).map sD).length ≤ 16 := by
    rw [List.length_map, stand_len]
    exact hok.few
  have hrl := hok.len
  refine ⟨.rt (.ok _), .ok, ?_⟩
  refine bss_cons (env1 := [.gnd (gOf C2 p d n rs), .v (.list (rs.map rwD)), .own ((stand rs).map sD), .no, .no, .no]) ?_ ?_
  · refine bs_comp 2 3 (N := ["_law_ground", "_law_rows", "_law_due", "_law_k", "_law_found", "_law_row"]) (sc := defScope s_L_standing) (rs := (stand rs).map sD) Z.calm Z.nd (bi_rng1 T.z_range (be_len T.z_len (be_v 1 rfl).r) (by rw [List.length_map]; omega) (by rw [List.length_map]; omega)) (by decide +kernel) (show 3 < 6 by decide) ?_ (Nat.le_trans hlen (by decide))
    rw [List.length_map, Int.toNat_natCast, irng0]
    unfold stand
    rw [stand_range rs 0]
    refine comp_fm (fun (k : Nat) => PyData.int (k : Int)) (fun k => ((rs[k]?).getD none).map fun z => (((0 + k : Nat) : Int), z)) sD _ fun k hk => ?_
    have hk' : k < rs.length := by simpa using hk
    refine ⟨fun _ _ _ _ _ => bif_one ?_, fun y hy _ _ _ _ _ => ?_⟩
    · refine BT.to (bt_notN (be_ix (ds := rs.map rwD) (be_v 1 rfl) (be_v 3 rfl) (atI_rw hk')).r) ?_
      rw [isN_rwD]
      cases (rs[k]?).getD none <;> rfl
    · cases ho : (rs[k]?).getD none with
      | none =>
        rw [ho] at hy
        cases hy
      | some z =>
        rw [ho] at hy
        have e : y = (((0 + k : Nat) : Int), z) := (Option.some.inj hy).symm
        subst e
        have hat := atI_rw hk'
        rw [ho] at hat
        have e0 : ((0 + k : Nat) : Int) = (k : Int) := by omega
        show BE _ _ _ (.ok (.tuple [.int ((0 + k : Nat) : Int), d3 z]))
        rw [e0]
        exact be_tup (ds := [.int (k : Int), d3 z]) (ba_cons (be_v 3 rfl) (ba_cons (be_ix (ds := rs.map rwD) (d := d3 z) (be_v 1 rfl) (be_v 3 rfl) hat) ba_nil))
  refine bss_freeze 2 rfl ?_
  refine bss_cons (bs_own 4 Z.nd (be_methVF (g := gOf C2 p d n rs) G1 (fun _ _ _ _ h => h) Z.hr (by decide) (bg_v 0 rfl) hG)) ?_
  refine bss_cons (bs_ifF (bw_or (bt_not (bt_val (be_isi T.z_isinstance T.z_list PyProof.Rows.boot_list (br_own 4 rfl) (kit_list (.list _))))) (fun _ => bw_or1 (bt_neD Z.u (br_own 4 rfl) (be_v 2 rfl).r (shaped_sDs _) (shaped_sDs _)))).t (by rw [eqv_sDs, decide_eq_true rfl]; rfl) bss_nil) ?_
  refine bss_cons (env1 := [.gnd (gOf C2 p d n rs), .v (.list (rs.map rwD)), .v (.list ((stand rs).map sD)), .no, .own ((stand rs).map sD), .no]) (bs_forO (out := .nx _) 5 4 Z.hp Z.calm Z.nd rfl (loop_all (P := fun env => env[4]? = some (Sl.own ((stand rs).map sD))) rfl _ fun x hx => ?lp) (fun _ _ => trivial) (by decide)) ?_
  case lp =>
    obtain ⟨y, _, rfl⟩ := List.mem_map.mp hx
    refine BSs.fg 5 (env1 := [.gnd (gOf C2 p d n rs), .v (.list (rs.map rwD)), .v (.list ((stand rs).map sD)), .no, .own ((stand rs).map sD), .v (sD y)]) ?_
    exact bss_one (bs_ifF (bw_or (bt_not (bt_val (be_isi T.z_isinstance T.z_tuple PyProof.Rows.boot_tuple (be_v 5 rfl).r (kit_tuple (sD y))))) (fun _ => bw_or (bt_not (bt_val (be_call Gw Z.hr (by decide) (ba_cons (be_ixT (ds := [.int y.1, d3 y.2]) (d := .int y.1) (be_v 5 rfl) be_int rfl) ba_nil) ⟨_, rfl, rfl⟩))) (fun _ => bw_or1 (bt_not (bt_val (be_isi T.z_isinstance T.z_tuple PyProof.Rows.boot_tuple (be_ixT (ds := [.int y.1, d3 y.2]) (d := d3 y.2) (be_v 5 rfl) be_int rfl).r (kit_tuple (d3 y.2)))))))).t rfl bss_nil)
  have hll : (((rs.map rwD).length : Nat) : Int) = (rs.length : Int) := by rw [List.length_map]
  refine bss_cons (bs_append 4 rfl (be_tup (ba_cons (be_len T.z_len (be_v 1 rfl).r) (ba_cons (be_tup (ba_cons be_int (ba_cons be_int (ba_cons be_int ba_nil)))) ba_nil))) (Nat.lt_of_le_of_lt hlen (by decide))) ?_
  have e9 : (stand rs).map sD ++ [PyData.tuple [.int (((rs.map rwD).length : Nat) : Int), .tuple [.int 1, .int 0, .int 0]]] = ((stand rs) ++ [((((rs.map rwD).length : Nat) : Int), ((1, 0, 0) : Z3))]).map sD := by
    rw [List.map_append]
    rfl
  refine bss_one (bs_ret (BE.to (be_and (be_eqD Z.u (BE.list (be_methVF (g := gOf C2 p d n rs) G1 (fun _ _ _ _ h => h) Z.hr (by decide) (bg_v 0 rfl) hG)).r (be_v 2 rfl).r (shaped_sDs _) (shaped_sDs _)) (fun _ => be_one (be_eqD Z.u (br_own 4 rfl) (BE.list (be_cat (be_v 2 rfl) (BE.list (be_lst (ba_cons (be_tup (ba_cons (be_len T.z_len (be_v 1 rfl).r) (ba_cons (be_tup (ba_cons be_int (ba_cons be_int (ba_cons be_int ba_nil)))) ba_nil))) ba_nil) (by show 1 ≤ sizeLine; decide))) (Nat.le_trans (Nat.add_le_add_right hlen 1) (by decide)))).r (by rw [e9]; exact shaped_sDs _) (by rw [e9]; exact shaped_sDs _)))) ?_))
  rw [eqv_sDs, decide_eq_true rfl, e9, eqv_sDs, decide_eq_true rfl]
  rfl
def gLendV (mg : Str → Option Value) : List Av → Rs → Prop := fun as r => ∃ (C p d : Addr) (n : Int) (rs : Rw), as = [.g (gOf C p d n rs), .d (.list (rs.map rwD)), .d (.int n)] ∧ mg "Ground" = some (.ref C) ∧ Rok rs ∧ sizeChk (.int n) = true ∧ r = .ok (.bool true)
theorem d_L_ended (T : Top K mg c) : DnS P w K mg base 8 "_law_ended" (spV K (gLendV mg)) := by
  obtain ⟨f, fd, F, hm⟩ := T.f_L_ended.ex
  refine ⟨f, fd, ["_law_ground", "_law_rows", "_law_size"], ?_, hm, F.kp, F.binds fun _ _ _ _ _ _ us hl => match us, hl with | [_, _, _], _ => rfl⟩
  refine okV_def F sc_L_ended (fun as r ⟨_, _, _, _, _, h, _⟩ => by rw [h]; rfl) ?_
  rintro cdv A outer s H E Z as r ⟨C2, p, d, n, rs, rfl, hC2, hok, hs, rfl⟩
  have G1 := m_Ground_corners (P := P) (w := w) (base := base) T hC2
  have G2 := m_Ground_area (P := P) (w := w) (base := base) T hC2
  have G3 := d_corners_land (P := P) (w := w) (base := base) T
  have G4 := d_twice_area (P := P) (w := w) (base := base) T
  have hrl : (rowsZ n (fncs rs)).length ≤ 20 := by
    rw [rows_len]
    have := hok.few
    omega
  have hcl := corners_len hrl
  have hG1 : gCornersV mg [.g (gOf C2 p d n rs)] (.fr ((cornersZ (rowsZ n (fncs rs))).map d3)) := ⟨C2, p, d, n, rs, rfl, hC2, hok, hs, rfl⟩
  have hG2 : gAreaV mg [.g (gOf C2 p d n rs)] (.ok (d2 (areaZ (cornersZ (rowsZ n (fncs rs)))))) := ⟨C2, p, d, n, rs, rfl, hC2, hok, hs, rfl⟩
  refine ⟨.rt (.ok _), .ok, ?_⟩
  refine bss_cons (env1 := [.gnd (gOf C2 p d n rs), .v (.list (rs.map rwD)), .v (.int n), .own ((fncs rs).map d3), .no, .no, .no]) ?_ ?_
  · refine bs_comp 3 4 (N := ["_law_ground", "_law_rows", "_law_size", "_law_fences", "_law_row", "_law_found", "_law_again_here"]) (sc := defScope s_L_ended) (rs := (fncs rs).map d3) Z.calm Z.nd (bi_list (be_v 1 rfl)) (by decide +kernel) (show 4 < 7 by decide) ?_ (by rw [List.length_map]; exact Nat.le_trans hok.few (by decide))
    refine comp_fm rwD id d3 _ fun o ho => ⟨fun _ _ _ _ _ => bif_one ?_, fun y hy _ _ _ _ _ => ?_⟩
    · refine BT.to (bt_notN (be_v 4 rfl).r) ?_
      rw [isN_rwD]
      cases o <;> rfl
    · have e : o = some y := hy
      subst e
      exact be_v 4 rfl
  refine bss_freeze 3 rfl ?_
  have hfs : ∃ (n' : Int) (fs : List Z3), [PyData.int n, .list ((fncs rs).map d3)] = [.int n', .list (fs.map d3)] ∧ sizeChk (.int n') = true ∧ fs.length ≤ 16 ∧ (∀ f, f ∈ fs → okF f = true) ∧ Rs.fr ((cornersZ (rowsZ n (fncs rs))).map d3) = Rs.fr ((cornersZ (rowsZ n' fs)).map d3) := ⟨n, fncs rs, rfl, hs, hok.few, hok.ok, rfl⟩
  have hfa : ∃ (n' : Int) (fs : List Z3), [PyData.int n, .list ((fncs rs).map d3)] = [.int n', .list (fs.map d3)] ∧ sizeChk (.int n') = true ∧ fs.length ≤ 16 ∧ (∀ f, f ∈ fs → okF f = true) ∧ Rs.ok (d2 (areaZ (cornersZ (rowsZ n (fncs rs))))) = Rs.ok (d2 (areaZ (cornersZ (rowsZ n' fs)))) := ⟨n, fncs rs, rfl, hs, hok.few, hok.ok, rfl⟩
  generalize cornersZ (rowsZ n (fncs rs)) = cs at hcl hG1 hG2 hfs hfa ⊢
  refine bss_cons (bs_own 5 Z.nd (be_methVF (g := gOf C2 p d n rs) G1 (fun _ _ _ _ h => h) Z.hr (by decide) (bg_v 0 rfl) hG1)) ?_
  refine bss_cons (bs_ifF (bw_or (bt_not (bt_val (be_isi T.z_isinstance T.z_list PyProof.Rows.boot_list (br_own 5 rfl) (kit_list (.list _))))) (fun _ => bw_or1 (bt_neD Z.u (br_own 5 rfl) (BE.list (be_callF G3 Z.hr (by decide) (ba_cons (be_v 2 rfl) (ba_cons (be_v 3 rfl) ba_nil)) hfs)).r (shaped_d3s _) (shaped_d3s _)))).t (by rw [eqv_d3s, decide_eq_true rfl]; rfl) bss_nil) ?_
  refine bss_cons (bs_append 5 rfl (be_tup (ba_cons be_int (ba_cons be_int (ba_cons be_int ba_nil)))) (by rw [List.length_map]; exact Nat.lt_of_le_of_lt hcl (by decide))) ?_
  refine bss_cons (bs_set 6 Z.nd (BE.list (be_methVF (g := gOf C2 p d n rs) G1 (fun _ _ _ _ h => h) Z.hr (by decide) (bg_v 0 rfl) hG1))) ?_
  have e9 : cs.map d3 ++ [PyData.tuple [.int 0, .int 0, .int 1]] = (cs ++ [((0, 0, 1) : Z3)]).map d3 := by
    rw [List.map_append]
    rfl
  refine bss_one (bs_ret (BE.to (be_and (be_eqD Z.u (br_own 5 rfl) (BE.list (be_cat (be_v 6 rfl) (BE.list (be_lst (ba_cons (be_tup (ba_cons be_int (ba_cons be_int (ba_cons be_int ba_nil)))) ba_nil) (by show 1 ≤ sizeLine; decide))) (by rw [List.length_map]; exact Nat.le_trans (Nat.add_le_add_right hcl 1) (by decide)))).r (by rw [e9]; exact shaped_d3s _) (by rw [e9]; exact shaped_d3s _)) (fun _ => be_one (be_eqD Z.u (be_methV (g := gOf C2 p d n rs) G2 (fun _ _ _ _ h => h) Z.hr (by decide) (bg_v 0 rfl) hG2).r (be_call G4 Z.hr (by decide) (ba_cons (be_v 2 rfl) (ba_cons (be_v 3 rfl) ba_nil)) hfa).r (d2_shaped _) (d2_shaped _)))) ?_))
  rw [e9, eqv_d3s, eqv_d2, decide_eq_true rfl, decide_eq_true rfl]
  rfl
def agK (rs : Rw) (cell : Int) : Int := ((stand rs).getD (cell % ((stand rs).length : Int)).toNat (0, (0, 0, 0))).1
def agW (rs : Rw) (cell m : Int) : Rw := if stand rs = [] then rs else rs.set (agK rs cell).toNat none ++ [some (fenceB cell m)]
def gLagM (mg : Str → Option Value) : List Av → List Wc → D → List Wc → Prop := fun as ω r ω' => ∃ (C p d q : Addr) (n : Int) (rs : Rw) (cell : Int), as = [.a p, .a q, .d (.int n), .d (.int cell)] ∧ ω = [.g (gOf C p d n rs), .l q (rs.map rwD)] ∧ mg "Ground" = some (.ref C) ∧ Rok rs ∧ sizeChk (.int n) = true ∧ rs.length < 200 ∧ r = .bool true ∧ ω' = [.g (gOf C p d n (agW rs cell n)), .l q ((agW rs cell n).map rwD)]
theorem set_drop_len (rs : Rw) (j : Nat) (z : Z3) (h : rs[j]? = some (some z)) : (fncs (rs.set j none)).length < (fncs rs).length := by
  rw [← stand_len, ← stand_len]
  unfold stand
  rw [standF_set]
  have hm : ((((0 + j : Nat) : Int), z) : Int × Z3) ∈ standF 0 rs := by
    have hj : j < rs.length := (List.getElem?_eq_some_iff.mp h).1
    rw [stand_range rs 0, List.mem_filterMap]
    exact ⟨j, by simpa using hj, by rw [h]; rfl⟩
  exact Nat.lt_of_le_of_ne (List.length_filter_le _ _) fun e => by
    have := List.filter_eq_self.mp (List.Sublist.eq_of_length (List.filter_sublist) e) _ hm
    simp at this
theorem d_L_again (T : Top K mg c) : DnS P w K mg base 9 "_law_again" (spM K (gLagM mg)) := by
  obtain ⟨f, fd, F, hm⟩ := T.f_L_again.ex
  have Gfe := d_L_fence_by (P := P) (w := w) (base := base) T
  have Gs := d_L_standing (P := P) (w := w) (base := base) T
  have Ge := d_L_ended (P := P) (w := w) (base := base) T
  refine ⟨f, fd, ["_law_ground", "_law_rows", "_law_size", "_law_cell"], ?_, hm, F.kp, F.binds fun _ _ _ _ _ _ us hl => match us, hl with | [_, _, _, _], _ => rfl⟩
  refine okM_def F sc_L_again (fun as ω d ω' ⟨_, _, _, _, _, _, _, h, _⟩ => by rw [h]; rfl) (fun as ω d ω' ⟨_, _, _, _, _, _, _, h, _⟩ g => by rw [h]; simp) ?_
  rintro cdv A outer s H E Z as ω r ω' ⟨C2, p, d, q, n, rs, cell, rfl, rfl, hC2, hok, hs, hl, rfl, rfl⟩
  have Gp := m_Ground_put (P := P) (w := w) (base := base) T hC2
  have Gt := m_Ground_take (P := P) (w := w) (base := base) T hC2
  have Gc := m_Ground_corners (P := P) (w := w) (base := base) T hC2
  have hn1 : 1 ≤ n := by
    have h' : 1 ≤ n ∧ n ≤ 1000 := by simpa [sizeChk] using hs
    exact h'.1
  have hlen : (((rs.map rwD).length : Nat) : Int) = (rs.length : Int) := by rw [List.length_map]
  have hsl : (stand rs).length ≤ 16 := by
    rw [stand_len]
    exact hok.few
  -- there
  refine wbs_cons (env1 := [.adr p, .adr q, .v (.int n), .v (.int cell), .v (.list (((stand rs).map (·.1)).map .int)), .no, .no, .no, .no, .no, .no]) (wb_comp (envv := [.no, .v (.list (rs.map rwD)), .v (.int n), .v (.int cell), .no, .no, .no, .no, .no, .no, .no]) 4 5 (N := ["_law_ground", "_law_rows", "_law_size", "_law_cell", "_law_there", "_law_k", "_law_number", "_law_fence", "_law_ahead", "_law_kept", "_law_far"]) (sc := defScope s_L_again) (rs := ((stand rs).map (·.1)).map .int) Z.calm Z.nd (.cons .no (.cons (VwA.l (by simp)) (.cons .v (.cons .v (.cons .no (.cons .no (.cons .no (.cons .no (.cons .no (.cons .no (.cons .no .nil))))))))))) (bi_rng1 T.z_range (be_len T.z_len (be_v 1 rfl).r) (by rw [List.length_map]; omega) (by rw [List.length_map]; omega)) (by decide +kernel) (by show 5 < 11; decide) ?cp (by rw [List.length_map, List.length_map]; exact Nat.le_trans hsl (by decide)) (noLs_map (fun _ => rfl) _)) ?_
  case cp =>
    rw [List.length_map, Int.toNat_natCast, irng0, List.map_map]
    unfold stand
    rw [stand_range rs 0]
    refine comp_fm (fun (k : Nat) => PyData.int (k : Int)) (fun k => ((rs[k]?).getD none).map fun z => (((0 + k : Nat) : Int), z)) (PyData.int ∘ fun x : Int × Z3 => x.1) _ fun k hk => ?_
    have hk' : k < rs.length := by simpa using hk
    refine ⟨fun _ _ _ _ _ => bif_one ?_, fun y hy _ _ _ _ _ => ?_⟩
    · refine BT.to (bt_notN (be_ix (ds := rs.map rwD) (be_v 1 rfl) (be_v 5 rfl) (atI_rw hk')).r) ?_
      rw [isN_rwD]
      cases (rs[k]?).getD none <;> rfl
    · cases ho : (rs[k]?).getD none with
      | none =>
        rw [ho] at hy
        cases hy
      | some z =>
        rw [ho] at hy
        have e : y = (((0 + k : Nat) : Int), z) := (Option.some.inj hy).symm
        subst e
        have e0 : ((0 + k : Nat) : Int) = (k : Int) := by omega
        show BE _ _ _ (.ok (.int ((0 + k : Nat) : Int)))
        rw [e0]
        exact be_v 5 rfl
  have eqI : ∀ xs : List Int, PyData.eqv (.list (xs.map .int)) (.list []) = decide (xs = []) := fun xs => by
    have := eqvAll_map (f := PyData.int) eqv_int xs []
    simp only [PyData.eqv]
    exact this
  have shI : ∀ xs : List Int, SeqAt.shaped (.list (xs.map .int)) = true := fun xs => shaped_list (fun _ => rfl) (fun _ => by show 0 ≤ 60; decide) xs
  by_cases h0 : stand rs = []
  · have e : agW rs cell n = rs := by
      unfold agW
      rw [if_pos h0]
    rw [e]
    refine wbs_rt (wb_ifT (envv := [.no, .no, .no, .no, .v (.list (((stand rs).map (·.1)).map .int)), .no, .no, .no, .no, .no, .no]) (.cons .no (.cons .no (.cons .no (.cons .no (.cons .v (.cons .no (.cons .no (.cons .no (.cons .no (.cons .no (.cons .no .nil))))))))))) (bt_eqD Z.u (be_v 4 rfl).r (BE.list (be_lst ba_nil)).r (shI _) (shI [])) ((eqI _).trans (decide_eq_true (by rw [h0]; rfl))) (wbs_one (wb_ret (d := .bool true) (envv := [.no, .no, .no, .no, .no, .no, .no, .no, .no, .no, .no]) (.cons .no (.cons .no (.cons .no (.cons .no (.cons .no (.cons .no (.cons .no (.cons .no (.cons .no (.cons .no (.cons .no .nil))))))))))) be_bl rfl)))
  refine wbs_cons (wb_ifF (envv := [.no, .no, .no, .no, .v (.list (((stand rs).map (·.1)).map .int)), .no, .no, .no, .no, .no, .no]) (.cons .no (.cons .no (.cons .no (.cons .no (.cons .v (.cons .no (.cons .no (.cons .no (.cons .no (.cons .no (.cons .no .nil))))))))))) (bt_eqD Z.u (be_v 4 rfl).r (BE.list (be_lst ba_nil)).r (shI _) (shI [])) ((eqI _).trans (decide_eq_false (by simpa using h0))) wbs_nil) ?_
  have hpos : 0 < (stand rs).length := List.length_pos_iff.mpr h0
  have hq0 : 0 ≤ cell % ((stand rs).length : Int) := Int.emod_nonneg _ (by omega)
  have hq1 : cell % ((stand rs).length : Int) < (stand rs).length := Int.emod_lt_of_pos _ (by omega)
  have hmem := getD_mem (xs := stand rs) (n := (cell % ((stand rs).length : Int)).toNat) (z := ((0, (0, 0, 0)) : Int × Z3)) (by omega)
  have hatT : atI (((stand rs).map (·.1)).map PyData.int) (cell % (((((stand rs).map (·.1)).map PyData.int).length : Nat) : Int)) = some (.int (agK rs cell)) := by
    rw [List.length_map, List.length_map, List.map_map]
    have := atI_mapD (f := PyData.int ∘ fun x : Int × Z3 => x.1) (xs := stand rs) (k := cell % ((stand rs).length : Int)) (0, (0, 0, 0)) hq0 hq1
    exact this
  have eag : agW rs cell n = rs.set (agK rs cell).toNat none ++ [some (fenceB cell n)] := by
    unfold agW
    rw [if_neg h0]
  rw [eag]
  have hge := standF_ge 0 rs _ hmem
  have hat0 := standF_at 0 rs _ hmem
  have hk0 : 0 ≤ agK rs cell := by
    unfold agK
    omega
  have hk1 : agK rs cell < rs.length := by
    unfold agK
    omega
  obtain ⟨z, hz⟩ : ∃ z, rs[(agK rs cell).toNat]? = some (some z) := by
    refine ⟨((stand rs).getD (cell % ((stand rs).length : Int)).toNat (0, (0, 0, 0))).2, ?_⟩
    have e : (agK rs cell).toNat = (((stand rs).getD (cell % ((stand rs).length : Int)).toNat (0, (0, 0, 0))).1 - ((0 : Nat) : Int)).toNat := by
      unfold agK
      omega
    rw [e]
    exact hat0
  refine wbs_cons (env1 := [.adr p, .adr q, .v (.int n), .v (.int cell), .v (.list (((stand rs).map (·.1)).map .int)), .no, .v (.int (agK rs cell)), .no, .no, .no, .no]) (wb_setA (envv := [.no, .no, .no, .v (.int cell), .v (.list (((stand rs).map (·.1)).map .int)), .no, .no, .no, .no, .no, .no]) 6 Z.nd (.cons .no (.cons .no (.cons .no (.cons .v (.cons .v (.cons .no (.cons .no (.cons .no (.cons .no (.cons .no (.cons .no .nil))))))))))) (be_ix (be_v 4 rfl) (be_mod (be_v 3 rfl) (be_len T.z_len (be_v 4 rfl).r) (by rw [List.length_map, List.length_map]; omega)) hatT) rfl) ?_
  generalize agK rs cell = k at hk0 hk1 hz ⊢
  generalize ((stand rs).map (·.1)).map PyData.int = there
  have hrow : rowAt rs k = some z := by
    unfold rowAt
    rw [if_neg (by omega), hz]
    rfl
  have hat : atI (rs.map rwD) k = some (d3 z) := by
    have := atI_row hk0 hk1
    rw [hrow] at this
    exact this
  refine wbs_cons (env1 := [.adr p, .adr q, .v (.int n), .v (.int cell), .v (.list there), .no, .v (.int k), .v (d3 z), .no, .no, .no]) (wb_setA (envv := [.no, .v (.list (rs.map rwD)), .no, .no, .no, .no, .v (.int k), .no, .no, .no, .no]) 7 Z.nd (.cons .no (.cons (VwA.l (by simp)) (.cons .no (.cons .no (.cons .no (.cons .no (.cons .v (.cons .no (.cons .no (.cons .no (.cons .no .nil))))))))))) (be_ix (be_v 1 rfl) (be_v 6 rfl) hat) (noL_d3 z)) ?_
  have hrl : (rowsZ n (fncs rs)).length ≤ 20 := by
    rw [rows_len]
    have := hok.few
    omega
  obtain ⟨cs, hcs⟩ : ∃ cs, cs = cornersZ (rowsZ n (fncs rs)) := ⟨_, rfl⟩
  refine wbs_cons (env1 := [.adr p, .adr q, .v (.int n), .v (.int cell), .v (.list there), .no, .v (.int k), .v (d3 z), .v (.list (cs.map d3)), .no, .no]) (wb_setL (envv := [.gnd (gOf C2 p d n rs), .no, .no, .no, .no, .no, .no, .no, .no, .no, .no]) 8 Z.nd (.cons (VwA.g List.mem_cons_self) (.cons .no (.cons .no (.cons .no (.cons .no (.cons .no (.cons .no (.cons .no (.cons .no (.cons .no (.cons .no .nil))))))))))) (be_methVF (g := gOf C2 p d n rs) (G := gCornersV mg) Gc (fun _ _ _ _ h => h) Z.hr (by decide) (bg_v 0 rfl) ⟨C2, p, d, n, rs, rfl, hC2, hok, hs, by rw [hcs]⟩) (noLs_map noL_d3 _)) ?_
  refine wbs_cons (env1 := [.adr p, .adr q, .v (.int n), .v (.int cell), .v (.list there), .no, .v (.int k), .v (d3 z), .v (.list (cs.map d3)), .v (.list (cs.map d3)), .no]) (wb_setL (envv := [.no, .no, .no, .no, .no, .no, .no, .no, .v (.list (cs.map d3)), .no, .no]) 9 Z.nd (.cons .no (.cons .no (.cons .no (.cons .no (.cons .no (.cons .no (.cons .no (.cons .no (.cons .v (.cons .no (.cons .no .nil))))))))))) (be_listOf T.z_list (be_v 8 rfl)) (noLs_map noL_d3 _)) ?_
  -- the take
  have hok1 := rok_set k.toNat hok
  refine wbs_cons (ω1 := [.g (gOf C2 p d n (rs.set k.toNat none)), .l q (rs.map rwD)]) (env1 := [.adr p, .adr q, .v (.int n), .v (.int cell), .v (.list there), .no, .v (.int k), .v (d3 z), .v (.list (cs.map d3)), .v (.list (cs.map d3)), .no]) (wb_ifMF (b1 := false) (wt_orF (ω1 := [.g (gOf C2 p d n (rs.set k.toNat none)), .l q (rs.map rwD)]) (b2 := false) (envv := [.no, .no, .no, .no, .no, .no, .no, .v (d3 z), .v (.list (cs.map d3)), .v (.list (cs.map d3)), .no]) (WT.to (wt_ne (d := d3 z) (d2 := d3 z) (ω1 := [.g (gOf C2 p d n (rs.set k.toNat none)), .l q (rs.map rwD)]) (envv := [.no, .no, .no, .no, .no, .no, .no, .v (d3 z), .no, .no, .no]) (we_methM (g := gOf C2 p d n rs) (G := gTakeM mg) (ωc' := [.g (gOf C2 p d n (rs.set k.toNat none))]) (ωr := [.l q (rs.map rwD)]) 0 Gt (fun _ _ _ _ h => .inr h) Z.hr (by decide) rfl (bv_d (be_v 6 rfl) bv_nil) (List.Perm.refl _) ⟨C2, p, d, n, rs, k, z, rfl, rfl, hC2, hrow, rfl, rfl⟩ rfl) (.cons .no (.cons .no (.cons .no (.cons .no (.cons .no (.cons .no (.cons .no (.cons .v (.cons .no (.cons .no (.cons .no .nil))))))))))) (be_v 7 rfl) (op_neD Z.u) (s_neD (d3_shaped _) (d3_shaped _)) (nomark _)) (by rw [eqv_d3, decide_eq_true rfl]; rfl)) (.cons .no (.cons .no (.cons .no (.cons .no (.cons .no (.cons .no (.cons .no (.cons .v (.cons .v (.cons .v (.cons .no .nil))))))))))) (bw_or1 (BT.to (bt_neD Z.u (be_v 8 rfl).r (be_v 9 rfl).r (shaped_d3s _) (shaped_d3s _)) (by rw [eqv_d3s, decide_eq_true rfl]; rfl)))) rfl wbs_nil) ?_
  have e9 : (rs.map rwD).set k.toNat .none = (rs.set k.toNat none).map rwD := by
    rw [List.map_set]
    rfl
  refine wbs_cons (ω1 := [.g (gOf C2 p d n (rs.set k.toNat none)), .l q ((rs.set k.toNat none).map rwD)]) (WB.permN (WB.to (wb_setAt (ds := rs.map rwD) (d := .none) (j := k.toNat) (ωr := [.g (gOf C2 p d n (rs.set k.toNat none))]) 1 rfl (be_v 6 rfl) be_non (List.Perm.swap _ _ _) ?hj) (by rw [e9])) (List.Perm.swap _ _ _)) ?_
  case hj =>
    rw [List.length_map]
    unfold ixN
    rw [if_pos hk0, if_pos hk1]
  have hl1 : (rs.set k.toNat none).length = rs.length := List.length_set
  have hfew1 := set_drop_len rs k.toNat z hz
  have hfew := hok.few
  generalize rs.set k.toNat none = r1 at hok1 hl1 hfew1 ⊢
  refine wbs_cons (wb_ifF (envv := [.gnd (gOf C2 p d n r1), .v (.list (r1.map rwD)), .v (.int n), .no, .no, .no, .no, .no, .no, .no, .no]) (.cons (VwA.g List.mem_cons_self) (.cons (VwA.l (by simp)) (.cons .v (.cons .no (.cons .no (.cons .no (.cons .no (.cons .no (.cons .no (.cons .no (.cons .no .nil))))))))))) (bw_or (bt_not (bt_val (be_callV (G := gLstV mg) (d := .bool true) Gs (fun _ _ _ _ h => h) Z.hr (by decide) (bv_g (bg_v 0 rfl) (bv_d (be_v 1 rfl) bv_nil)) ⟨C2, p, d, n, r1, rfl, hC2, hok1, rfl⟩))) (fun _ => bw_or1 (bt_not (bt_val (be_callV (G := gLendV mg) (d := .bool true) Ge (fun _ _ _ _ h => h) Z.hr (by decide) (bv_g (bg_v 0 rfl) (bv_d (be_v 1 rfl) (bv_d (be_v 2 rfl) bv_nil))) ⟨C2, p, d, n, r1, rfl, hC2, hok1, hs, rfl⟩))))).t rfl wbs_nil) ?_
  refine wbs_cons (env1 := [.adr p, .adr q, .v (.int n), .v (.int cell), .v (.list there), .no, .v (.int k), .v (d3 z), .v (.list (cs.map d3)), .v (.list (cs.map d3)), .v (d3 (fenceB cell n))]) (wb_lift (bs_set 10 Z.nd (be_call Gfe Z.hr (by decide) (ba_cons (be_v 3 rfl) (ba_cons (be_v 2 rfl) ba_nil)) ⟨_, _, rfl, hn1, rfl⟩))) ?_
  have hzf := fenceB_ok cell n
  generalize fenceB cell n = zf at hzf ⊢
  have hok2 : Rok (r1 ++ [some zf]) := rok_app hok1 (by omega) hzf (by omega)
  refine wbs_cons (ω1 := [.g (gOf C2 p d n (r1 ++ [some zf])), .l q (r1.map rwD)]) (env1 := [.adr p, .adr q, .v (.int n), .v (.int cell), .v (.list there), .no, .v (.int k), .v (d3 z), .v (.list (cs.map d3)), .v (.list (cs.map d3)), .v (d3 zf)]) (wb_ifMF (b1 := false) (WT.to (wt_ne (d := .int r1.length) (d2 := .int ((r1.map rwD).length : Nat)) (ω1 := [.g (gOf C2 p d n (r1 ++ [some zf])), .l q (r1.map rwD)]) (envv := [.no, .v (.list (r1.map rwD)), .no, .no, .no, .no, .no, .no, .no, .no, .no]) (we_methM (g := gOf C2 p d n r1) (G := gPutM mg) (ωc' := [.g (gOf C2 p d n (r1 ++ [some zf]))]) (ωr := [.l q (r1.map rwD)]) 0 Gp (fun _ _ _ _ h => .inr h) Z.hr (by decide) rfl (bv_d (be_v 10 rfl) bv_nil) (List.Perm.refl _) ⟨C2, p, d, n, r1, zf, rfl, rfl, hC2, hok1, hzf, by omega, rfl, rfl⟩ rfl) (.cons .no (.cons (VwA.l (by simp)) (.cons .no (.cons .no (.cons .no (.cons .no (.cons .no (.cons .no (.cons .no (.cons .no (.cons .no .nil))))))))))) (be_len T.z_len (be_v 1 rfl).r) op_ne s_neI (nomark _)) (by rw [List.length_map, decide_eq_true rfl]; rfl)) rfl wbs_nil) ?_
  have e8 : r1.map rwD ++ [d3 zf] = (r1 ++ [some zf]).map rwD := by
    rw [List.map_append]
    rfl
  refine wbs_cons (ω1 := [.g (gOf C2 p d n (r1 ++ [some zf])), .l q ((r1 ++ [some zf]).map rwD)]) (WB.permN (WB.to (wb_append (ds := r1.map rwD) (ωr := [.g (gOf C2 p d n (r1 ++ [some zf]))]) 1 rfl (be_v 10 rfl) (List.Perm.swap _ _ _) (by rw [List.length_map]; exact Nat.lt_of_le_of_lt hok1.len (by decide))) (by rw [e8])) (List.Perm.swap _ _ _)) ?_
  refine wbs_one (wb_ret (d := .bool true) (envv := [.gnd (gOf C2 p d n (r1 ++ [some zf])), .v (.list ((r1 ++ [some zf]).map rwD)), .v (.int n), .no, .no, .no, .no, .no, .v (.list (cs.map d3)), .v (.list (cs.map d3)), .no]) (.cons (VwA.g List.mem_cons_self) (.cons (VwA.l (by simp)) (.cons .v (.cons .no (.cons .no (.cons .no (.cons .no (.cons .no (.cons .v (.cons .v (.cons .no .nil))))))))))) (BE.to (be_and (be_callV (G := gLstV mg) (d := .bool true) Gs (fun _ _ _ _ h => h) Z.hr (by decide) (bv_g (bg_v 0 rfl) (bv_d (be_v 1 rfl) bv_nil)) ⟨C2, p, d, n, _, rfl, hC2, hok2, rfl⟩) (fun _ => be_and (be_callV (G := gLendV mg) (d := .bool true) Ge (fun _ _ _ _ h => h) Z.hr (by decide) (bv_g (bg_v 0 rfl) (bv_d (be_v 1 rfl) (bv_d (be_v 2 rfl) bv_nil))) ⟨C2, p, d, n, _, rfl, hC2, hok2, hs, rfl⟩) (fun _ => be_one (be_eqD Z.u (be_v 8 rfl).r (be_v 9 rfl).r (shaped_d3s _) (shaped_d3s _))))) (by rw [eqv_d3s, decide_eq_true rfl]; rfl)) rfl)
theorem size_ok (n : Int) : sizeChk (.int (sizeB n)) = true := by
  have := sizeB_bd n
  simp [sizeChk]
  omega
def menuZ (a : Int) : List D := [.int 0, .int 1001, .int (-5 - a % 1003), .bool true, .none, .str "5"]
theorem menuZ_bad {a : Int} : ∀ d, d ∈ menuZ a → sizeChk d = false := by
  intro d hd
  simp only [menuZ, List.mem_cons, List.not_mem_nil, or_false] at hd
  rcases hd with rfl | rfl | rfl | rfl | rfl | rfl
  · rfl
  · rfl
  · show (decide (1 ≤ -5 - a % 1003) && decide (-5 - a % 1003 ≤ 1000)) = false
    rw [decide_eq_false (by omega)]
    rfl
  · rfl
  · rfl
  · rfl
def csZ (ns : List Int) (first : Int) : List Int := if first % 12 = 1 then (List.range (cellAt ns 1 / 9 % 21).toNat).foldl (fun (s : List Int) (k : Nat) => s ++ [3 * (10 * (cellAt ns 1 + 8191 * (k : Int)) + 1) * 2 + 1]) [] else []
theorem csZ_len (ns : List Int) (first : Int) : (csZ ns first).length ≤ 20 := by
  unfold csZ
  split
  · have := fold_inv (fun (s : List Int) (k : Nat) => s ++ [3 * (10 * (cellAt ns 1 + 8191 * (k : Int)) + 1) * 2 + 1]) (fun i s => s.length ≤ i) 20 (List.range (cellAt ns 1 / 9 % 21).toNat) 0 [] (by rw [List.length_range]; omega) (by simp) (fun i s x _ _ hs => by rw [List.length_append]; simp; omega)
    rw [List.length_range] at this
    omega
  · simp
theorem perm4 {α : Type} (a b c d : α) : [a, b, c, d].Perm [d, b, c, a] := by
  have h1 : [a, b, c, d].Perm [a, b, d, c] := List.Perm.cons a (List.Perm.cons b (List.Perm.swap d c []))
  have h2 : [a, b, d, c].Perm [a, d, b, c] := List.Perm.cons a (List.Perm.swap d b [c])
  have h3 : [a, d, b, c].Perm [d, a, b, c] := List.Perm.swap d a [b, c]
  have h4 : [d, a, b, c].Perm [d, b, a, c] := List.Perm.cons d (List.Perm.swap b a [c])
  have h5 : [d, b, a, c].Perm [d, b, c, a] := List.Perm.cons d (List.Perm.cons b (List.Perm.swap c a []))
  exact h1.trans (h2.trans (h3.trans (h4.trans h5)))
theorem wlp_foldJ {α β : Type} {body : List Sl → List Wc → WO → Prop} {j : Nat} (mk : β → List Sl) (wo : β → List Wc) (g : α → D) (step : β → α → β) (I : Nat → β → Prop) (N : Nat) : ∀ (xs : List α) (i : Nat) (s : β), i + xs.length ≤ N → I i s → (∀ i s x, x ∈ xs → i < N → I i s → body ((mk s).set j (.v (g x))) (wo s) (.nx (mk (step s x)) (wo (step s x))) ∧ I (i + 1) (step s x)) →
    WLp body j (xs.map g) (mk s) (wo s) (.nx (mk (xs.foldl step s)) (wo (xs.foldl step s))) ∧ I (i + xs.length) (xs.foldl step s)
  | [], i, s, _, hs, _ => ⟨.nil, hs⟩
  | x :: r, i, s, hn, hs, h => by
    rw [List.length_cons] at hn
    obtain ⟨h1, h2⟩ := h i s x List.mem_cons_self (by omega) hs
    obtain ⟨h3, h4⟩ := wlp_foldJ mk wo g step I N r (i + 1) (step s x) (by omega) h2 fun i' s' x' hx hi hs' => h i' s' x' (List.mem_cons_of_mem _ hx) hi hs'
    refine ⟨.nx h1 h3, ?_⟩
    rw [List.length_cons, show i + (r.length + 1) = i + 1 + r.length by omega]
    exact h4
/-- the two grounds and the two lists -/
structure Two where
  C : Addr
  p0 : Addr
  q0 : Addr
  r0 : Addr
  p1 : Addr
  q1 : Addr
  r1 : Addr
  n0 : Int
  n1 : Int
def wo (t : Two) (s : Rw × Rw) : List Wc := [.g (gOf t.C t.p0 t.q0 t.n0 s.1), .l t.r0 (s.1.map rwD), .g (gOf t.C t.p1 t.q1 t.n1 s.2), .l t.r1 (s.2.map rwD)]
def sel {α : Type} (j : Nat) (a b : α) : α := if j = 0 then a else b
def put2 (j : Nat) (s : Rw × Rw) (r : Rw) : Rw × Rw := if j = 0 then (r, s.2) else (s.1, r)
def twoG (t : Two) (s : Rw × Rw) : List Gs := [gOf t.C t.p0 t.q0 t.n0 s.1, gOf t.C t.p1 t.q1 t.n1 s.2]
def twoL (s : Rw × Rw) : List D := [.list (s.1.map rwD), .list (s.2.map rwD)]
theorem v_gs (t : Two) (s : Rw × Rw) : VwA (wo t s) (.adrs [t.p0, t.p1]) (.gnds (twoG t s)) := VwA.gs (xs := twoG t s) (by simp [wo, twoG])
theorem v_ls (t : Two) (s : Rw × Rw) : VwA (wo t s) (.adrs [t.r0, t.r1]) (.v (.list (twoL s))) := VwA.ls (ls := [(t.r0, s.1.map rwD), (t.r1, s.2.map rwD)]) (by simp [wo])
structure Dd (t : Two) (s : Rw × Rw) (j : Nat) (pa qa ra : Addr) (na : Int) (sa : Rw) : Prop where
  hp : [t.p0, t.p1][j]? = some pa
  hr : [t.r0, t.r1][j]? = some ra
  hg : (twoG t s)[j]? = some (gOf t.C pa qa na sa)
  hl : atI (twoL s) (j : Int) = some (.list (sa.map rwD))
  hn : atI [PyData.int t.n0, .int t.n1] (j : Int) = some (.int na)
  pm : ∃ ωr, (wo t s).Perm ([.g (gOf t.C pa qa na sa), .l ra (sa.map rwD)] ++ ωr) ∧ ∀ s2, ([.g (gOf t.C pa qa na s2), .l ra (s2.map rwD)] ++ ωr).Perm (wo t (put2 j s s2))
theorem dd_get (t : Two) (s : Rw × Rw) (j : Nat) (hj : j < 2) : Dd t s j (sel j t.p0 t.p1) (sel j t.q0 t.q1) (sel j t.r0 t.r1) (sel j t.n0 t.n1) (sel j s.1 s.2) := by
  match j, hj with
  | 0, _ => exact ⟨rfl, rfl, rfl, atI_nat rfl, atI_nat rfl, [.g (gOf t.C t.p1 t.q1 t.n1 s.2), .l t.r1 (s.2.map rwD)], List.Perm.refl _, fun s2 => List.Perm.refl _⟩
  | 1, _ => exact ⟨rfl, rfl, rfl, atI_nat rfl, atI_nat rfl, [.g (gOf t.C t.p0 t.q0 t.n0 s.1), .l t.r0 (s.1.map rwD)], List.perm_append_comm (l₁ := [Wc.g (gOf t.C t.p0 t.q0 t.n0 s.1), .l t.r0 (s.1.map rwD)]), fun s2 => List.perm_append_comm (l₂ := [Wc.g (gOf t.C t.p0 t.q0 t.n0 s.1), .l t.r0 (s.1.map rwD)])⟩
theorem sel_put (j : Nat) (s : Rw × Rw) (r : Rw) : sel j (put2 j s r).1 (put2 j s r).2 = r := by
  unfold sel put2
  split <;> rfl
theorem put_sel (j : Nat) (s : Rw × Rw) : put2 j s (sel j s.1 s.2) = s := by
  unfold sel put2
  split <;> rfl
/-- one deed -/
def deedR (n : Int) (rs : Rw) (more : Int) : Rw :=
  if more % 2 = 0 then (if more / 2 % 10 ≠ 0 ∧ (fncs rs).length < 16 then rs ++ [some (fenceB (more / 2 / 10) n)] else rs)
  else (if 0 < more / 2 % 4 ∧ 0 < rs.length ∧ rowAt rs (more / 2 / 4 % (rs.length : Int)) ≠ none then rs.set (more / 2 / 4 % (rs.length : Int)).toNat none else rs)
theorem deedR_ok {n more : Int} {rs : Rw} (h : Rok rs) (hl : rs.length < 200) : Rok (deedR n rs more) ∧ (deedR n rs more).length ≤ rs.length + 1 := by
  unfold deedR
  split
  · split
    · rename_i q
      exact ⟨rok_app h q.2 (fenceB_ok _ _) hl, by simp⟩
    · exact ⟨h, by omega⟩
  · split
    · exact ⟨rok_set _ h, by rw [List.length_set]; omega⟩
    · exact ⟨h, by omega⟩
def stepL (t : Two) (s : Rw × Rw) (cell : Int) : Rw × Rw := put2 (if cell % 3 = 0 then 1 else 0) s (deedR (sel (if cell % 3 = 0 then 1 else 0) t.n0 t.n1) (sel (if cell % 3 = 0 then 1 else 0) s.1 s.2) (cell / 3))
structure Inv2 (i : Nat) (s : Rw × Rw) : Prop where
  a : Rok s.1
  b : Rok s.2
  la : s.1.length ≤ i
  lb : s.2.length ≤ i
theorem inv_sel {i j : Nat} {s : Rw × Rw} (h : Inv2 i s) : Rok (sel j s.1 s.2) ∧ (sel j s.1 s.2).length ≤ i := by
  unfold sel
  split
  · exact ⟨h.a, h.la⟩
  · exact ⟨h.b, h.lb⟩
theorem inv_put {i j : Nat} {s : Rw × Rw} {r : Rw} (h : Inv2 i s) (hr : Rok r) (hl : r.length ≤ i + 1) : Inv2 (i + 1) (put2 j s r) := by
  have h1 := h.la
  have h2 := h.lb
  unfold put2
  split
  · exact ⟨hr, h.b, hl, by show s.2.length ≤ i + 1; omega⟩
  · exact ⟨h.a, hr, by show s.1.length ≤ i + 1; omega, hl⟩
theorem ok_law {f : Addr} {fd : FuncData} (F : Fun K "law" "law" s_law f fd) (T : Top K mg c) : FnOk P w K mg base (L2.CX P w) 40 f fd ["_law_script"] (spD K fun as r => ∃ ns : List Int, as = [.list (ns.map .int)] ∧ ns.length ≤ 63 ∧ r = .ok (.bool true)) := by
  obtain ⟨CG, hCG⟩ := T.o_Ground
  have Gc := d_L_cell_at (P := P) (w := w) (base := base) T
  have Gsz := d_L_size_by (P := P) (w := w) (base := base) T
  have Gsr := d_L_size_refused (P := P) (w := w) (base := base) T
  have Gi := m_Ground_init (P := P) (w := w) (base := base) T hCG
  have Gst := m_Ground_standing (P := P) (w := w) (base := base) T hCG
  have Gp := d_L_put (P := P) (w := w) (base := base) T
  have Gt := d_L_take (P := P) (w := w) (base := base) T
  have Gs := d_L_standing (P := P) (w := w) (base := base) T
  have Ge := d_L_ended (P := P) (w := w) (base := base) T
  have Ga := d_L_again (P := P) (w := w) (base := base) T
  refine ok_def F sc_law (fun as r ⟨ns, h, _⟩ => by rw [h]; rfl) ?_
  rintro cdv A outer s H E Z as r ⟨ns, rfl, hl, rfl⟩
  refine ⟨.rt (.ok _), .ok, ?_⟩
  refine bss_cons (bs_set 1 Z.nd (be_call Gc Z.hr (by decide) (ba_cons (be_v 0 rfl) (ba_cons be_int ba_nil)) ⟨ns, 0, rfl, by decide, rfl⟩)) ?_
  refine bss_cons (bs_set 2 Z.nd (BE.list (be_lst (ba_cons (be_call Gsz Z.hr (by decide) (ba_cons (be_v 1 rfl) ba_nil) ⟨_, rfl, rfl⟩) (ba_cons (be_add be_int (be_mod (be_call Gc Z.hr (by decide) (ba_cons (be_v 0 rfl) (ba_cons be_int ba_nil)) ⟨ns, 1, rfl, by decide, rfl⟩) be_int (by decide))) ba_nil)) (by show 2 ≤ sizeLine; decide)))) ?_
  have hok0 := size_ok (cellAt ns 0)
  have hn1 : 1 ≤ 1 + cellAt ns 1 % 9 ∧ 1 + cellAt ns 1 % 9 ≤ 1000 := by omega
  have hok1 : sizeChk (.int (1 + cellAt ns 1 % 9)) = true := by
    show (decide (1 ≤ 1 + cellAt ns 1 % 9) && decide (1 + cellAt ns 1 % 9 ≤ 1000)) = true
    rw [decide_eq_true hn1.1, decide_eq_true hn1.2]
    rfl
  have hb0 := (sizeB_bd (cellAt ns 0)).1
  generalize sizeB (cellAt ns 0) = n0 at hok0 hb0 ⊢
  have hb1 := hn1.1
  generalize hdn : 1 + cellAt ns 1 % 9 = n1 at hok1 hb1 ⊢
  generalize hfi : cellAt ns 0 = first
  refine bss_cons (env1 := [.v (.list (ns.map .int)), .v (.int first), .v (.list [.int n0, .int n1]), .no, .no, .no, .no, .no, .no, .no, .no, .no, .no, .no]) ?_ ?_
  · refine bs_if (bt_eqI (be_mod (be_div (be_v 1 rfl) be_int (by decide)) be_int (by decide)) be_int) (fun _ => ?_) (fun _ => bss_nil)
    have hq : 0 ≤ first / 63 % 6 ∧ first / 63 % 6 < 6 := by omega
    exact bss_one (bs_ifF (bt_not (bt_val (be_call Gsr Z.hr (by decide) (ba_cons (be_ix (ds := menuZ first) (BE.list (be_lst (ba_cons be_int (ba_cons be_int (ba_cons (be_sub (be_neg be_int) (be_mod (be_v 1 rfl) be_int (by decide))) (ba_cons be_bl (ba_cons be_non (ba_cons be_str ba_nil)))))) (by show 6 ≤ sizeLine; decide))) (be_mod (be_div (be_v 1 rfl) be_int (by decide)) be_int (by decide)) (atI_menu hq.1 (by show _ < ((6 : Nat) : Int); exact hq.2))) ba_nil) ⟨_, rfl, menuZ_bad _ (getD_mem (by show _ < 6; omega)), rfl⟩))) rfl bss_nil)
  suffices hh : ∀ t : Two, t.C = CG → t.n0 = n0 → t.n1 = n1 → WBs _ _ [.v (.list (ns.map .int)), .v (.int first), .v (.list [.int t.n0, .int t.n1]), .adrs [t.p0, t.p1], .adrs [t.r0, t.r1], .no, .no, .no, .no, .no, .no, .no, .no, .no] (wo t ([], [])) (.rt (.bool true) []) by
    exact bss_world (wbs_mk2 (C := CG) (n0 := n0) (n1 := n1) 3 Z.nd (wm_make Gi Z.hr (by decide) (be_ix (d := .int n0) (be_v 2 rfl) be_int rfl) ⟨rfl, hok0⟩) (wm_make Gi Z.hr (by decide) (be_ix (d := .int n1) (be_v 2 rfl) be_int rfl) ⟨rfl, hok1⟩) fun p0 q0 p1 q1 => wbs_two 4 Z.nd fun r0 r1 => WBs.perm (hh ⟨CG, p0, q0, r0, p1, q1, r1, n0, n1⟩ rfl rfl rfl) (perm4 _ _ _ _))
  intro t hC h0 h1
  subst hC h0 h1
  refine wbs_cons (wb_lift (env1 := [.v (.list (ns.map .int)), .v (.int first), .v (.list [.int t.n0, .int t.n1]), .adrs [t.p0, t.p1], .adrs [t.r0, t.r1], .v (.int 24), .no, .no, .no, .no, .no, .no, .no, .no]) (bs_set 5 Z.nd be_int)) ?_
  refine wbs_cons (wb_lift (env1 := [.v (.list (ns.map .int)), .v (.int first), .v (.list [.int t.n0, .int t.n1]), .adrs [t.p0, t.p1], .adrs [t.r0, t.r1], .v (.int 24), .no, .no, .no, .no, .no, .no, .no, .no]) (bs_ifF (bt_gt (be_len T.z_len (be_v 0 rfl).r) be_int) (by rw [List.length_map]; exact decide_eq_false (by omega)) bss_nil)) ?_
  refine wbs_cons (wb_lift (env1 := [.v (.list (ns.map .int)), .v (.int first), .v (.list [.int t.n0, .int t.n1]), .adrs [t.p0, t.p1], .adrs [t.r0, t.r1], .v (.int 24), .own [], .no, .no, .no, .no, .no, .no, .no]) (bs_own 6 Z.nd (be_lst ba_nil))) ?_
  refine wbs_cons (env1 := [.v (.list (ns.map .int)), .v (.int first), .v (.list [.int t.n0, .int t.n1]), .adrs [t.p0, t.p1], .adrs [t.r0, t.r1], .v (.int 24), .own ((csZ ns first).map .int), .no, .no, .no, .no, .no, .no, .no]) (wb_lift ?cells) ?_
  case cells =>
    unfold csZ
    by_cases h : first % 12 = 1
    · rw [if_pos h]
      have hr20 : 0 ≤ cellAt ns 1 / 9 % 21 ∧ cellAt ns 1 / 9 % 21 ≤ 20 := by omega
      refine bs_ifT (bt_eqI (be_mod (be_v 1 rfl) be_int (by decide)) be_int) (by simpa using h) (bss_one (bs_for (out := .nx _) 7 Z.hp Z.calm Z.nd (bi_rng1 T.z_range (be_mod (be_div (be_call Gc Z.hr (by decide) (ba_cons (be_v 0 rfl) (ba_cons be_int ba_nil)) ⟨ns, 1, rfl, by decide, rfl⟩) be_int (by decide)) be_int (by decide)) (by omega) (by omega)) ?_))
      rw [irng0]
      refine loop_foldJ (P := fun _ => True) (fun (s : List Int) => [.v (.list (ns.map .int)), .v (.int first), .v (.list [.int t.n0, .int t.n1]), .adrs [t.p0, t.p1], .adrs [t.r0, t.r1], .v (.int 24), .own (s.map .int), .no, .no, .no, .no, .no, .no, .no]) (fun (k : Nat) => PyData.int (k : Int)) (fun (s : List Int) (k : Nat) => s ++ [3 * (10 * (cellAt ns 1 + 8191 * (k : Int)) + 1) * 2 + 1]) (fun i s => s.length ≤ i) 20 (fun _ => trivial) _ 0 [] (by rw [List.length_range]; omega) (by simp) ?_
      intro i s k hk hi hs
      refine ⟨?_, by rw [List.length_append]; simp; omega⟩
      refine BSs.fg 7 (env1 := [.v (.list (ns.map .int)), .v (.int first), .v (.list [.int t.n0, .int t.n1]), .adrs [t.p0, t.p1], .adrs [t.r0, t.r1], .v (.int 24), .own ((s ++ [3 * (10 * (cellAt ns 1 + 8191 * (k : Int)) + 1) * 2 + 1]).map .int), .v (.int (k : Int)), .no, .no, .no, .no, .no, .no]) ?_
      refine BSs.to (bss_one (bs_append 6 rfl (be_add (be_mulS (be_mulS be_int (be_add (be_mulS be_int (be_add (be_call Gc Z.hr (by decide) (ba_cons (be_v 0 rfl) (ba_cons be_int ba_nil)) ⟨ns, 1, rfl, by decide, rfl⟩) (be_mulS be_int (be_v 7 rfl) (.inl (by decide)))) (.inl (by decide))) be_int) (.inl (by decide))) be_int (.inr (by decide))) be_int) (by rw [List.length_map]; exact Nat.lt_of_le_of_lt (by omega : s.length ≤ 20) (by decide)))) ?_
      rw [List.map_append]
      rfl
    · rw [if_neg h]
      exact bs_ifF (bt_eqI (be_mod (be_v 1 rfl) be_int (by decide)) be_int) (by simpa using h) bss_nil
  have hcl := csZ_len ns first
  generalize csZ ns first = cs at hcl ⊢
  have hcut : (cutA ns (some 2) (some (2 + 24))).length ≤ 63 := by
    unfold cutA
    rw [List.length_take, List.length_drop]
    omega
  have eit : cs.map PyData.int ++ cutA (ns.map PyData.int) (some 2) (some (2 + 24)) = (cs ++ cutA ns (some 2) (some (2 + 24))).map PyData.int := by
    rw [cutA_map, List.map_append]
  have hitl : (cs ++ cutA ns (some 2) (some (2 + 24))).length ≤ 83 := by
    rw [List.length_append]
    omega
  have hstep : ∀ (i : Nat) (s : Rw × Rw) (x : Int), i < 190 → Inv2 i s → Inv2 (i + 1) (stepL t s x) := fun i s x hi hs => by
    obtain ⟨a1, a2⟩ := inv_sel (j := if x % 3 = 0 then 1 else 0) hs
    obtain ⟨b1, b2⟩ := deedR_ok (n := sel (if x % 3 = 0 then 1 else 0) t.n0 t.n1) (more := x / 3) a1 (by omega)
    exact inv_put hs b1 (by omega)
  have hI0 : Inv2 0 ([], []) := ⟨rok_nil, rok_nil, by simp, by simp⟩
  have hfin := fold_inv (stepL t) Inv2 190 (cs ++ cutA ns (some 2) (some (2 + 24))) 0 ([], []) (by omega) hI0 (fun i s x _ hi hs => hstep i s x hi hs)
  have hsel : ∀ j : Nat, sizeChk (.int (sel j t.n0 t.n1)) = true ∧ 1 ≤ sel j t.n0 t.n1 := fun j => by
    unfold sel
    split
    · exact ⟨hok0, hb0⟩
    · exact ⟨hok1, hb1⟩
  refine wbs_cons (env1 := [.v (.list (ns.map .int)), .v (.int first), .v (.list [.int t.n0, .int t.n1]), .adrs [t.p0, t.p1], .adrs [t.r0, t.r1], .v (.int 24), .own (cs.map .int), .no, .no, .no, .no, .no, .no, .no]) (ω1 := wo t ((cs ++ cutA ns (some 2) (some (2 + 24))).foldl (stepL t) ([], []))) (wb_for 8 Z.hp Z.calm Z.nd (bi_list (BE.list (be_catO 6 rfl (BE.list (be_slice (be_v 0 rfl) (bo_some be_int) (bo_some (be_add be_int (be_v 5 rfl))))) ?hln))) ?lp) ?_
  case hln =>
    rw [cutA_map, List.length_map, List.length_map]
    exact Nat.le_trans (by omega : cs.length + (cutA ns (some 2) (some (2 + 24))).length ≤ 83) (by decide)
  case lp =>
    rw [eit]
    refine (wlp_foldJ (fun _ => [.v (.list (ns.map .int)), .v (.int first), .v (.list [.int t.n0, .int t.n1]), .adrs [t.p0, t.p1], .adrs [t.r0, t.r1], .v (.int 24), .own (cs.map .int), .no, .no, .no, .no, .no, .no, .no]) (wo t) PyData.int (stepL t) Inv2 190 _ 0 ([], []) (by omega) hI0 ?_).1
    intro i s cell hc hi hs
    refine ⟨?_, hstep i s cell hi hs⟩
    obtain ⟨j, hj, ej⟩ : ∃ j : Nat, j < 2 ∧ (if cell % 3 = 0 then 1 else 0) = j := ⟨_, by split <;> omega, rfl⟩
    have hD := dd_get t s j hj
    obtain ⟨hsa, hsl⟩ := inv_sel (j := j) hs
    obtain ⟨hna, hna1⟩ := hsel j
    have hE : stepL t s cell = put2 j s (deedR (sel j t.n0 t.n1) (sel j s.1 s.2) (cell / 3)) := by
      unfold stepL
      rw [ej]
    rw [hE]
    have hD2 := dd_get t (put2 j s (deedR (sel j t.n0 t.n1) (sel j s.1 s.2) (cell / 3))) j hj
    rw [sel_put] at hD2
    obtain ⟨hsa2, _⟩ := deedR_ok (n := sel j t.n0 t.n1) (more := cell / 3) hsa (by omega)
    have epj : put2 j s (sel j s.1 s.2) = s := put_sel j s
    generalize sel j t.n0 t.n1 = na at hD hna hna1 hD2 hsa2 ⊢
    generalize sel j t.p0 t.p1 = pa at hD hD2
    generalize sel j t.q0 t.q1 = qa at hD hD2
    generalize sel j t.r0 t.r1 = ra at hD hD2
    generalize sel j s.1 s.2 = sa at hD hsa hsl hD2 hsa2 epj ⊢
    refine WBs.fgs [8, 9, 10, 11, 12, 13] (env1 := [.v (.list (ns.map .int)), .v (.int first), .v (.list [.int t.n0, .int t.n1]), .adrs [t.p0, t.p1], .adrs [t.r0, t.r1], .v (.int 24), .own (cs.map .int), .no, .v (.int cell), .v (.int (j : Int)), .v (.int (cell / 3)), .v (.bool true), .v (.list ((stand sa).map sD)), .v (.list ((stand sa).map sD))]) ?_
    refine wbs_cons (env1 := [.v (.list (ns.map .int)), .v (.int first), .v (.list [.int t.n0, .int t.n1]), .adrs [t.p0, t.p1], .adrs [t.r0, t.r1], .v (.int 24), .own (cs.map .int), .no, .v (.int cell), .v (.int (j : Int)), .no, .no, .no, .no]) (wb_lift (BS.to (bs_set 9 Z.nd (be_intB T.z_int (be_eqI (be_mod (be_v 8 rfl) be_int (by decide)) be_int))) ?hat)) ?_
    case hat =>
      have e : (if decide (cell % 3 = 0) = true then (1 : Int) else 0) = (j : Int) := by
        rw [← ej]
        by_cases q : cell % 3 = 0 <;> simp [q]
      rw [e]
      rfl
    refine wbs_cons (env1 := [.v (.list (ns.map .int)), .v (.int first), .v (.list [.int t.n0, .int t.n1]), .adrs [t.p0, t.p1], .adrs [t.r0, t.r1], .v (.int 24), .own (cs.map .int), .no, .v (.int cell), .v (.int (j : Int)), .v (.int (cell / 3)), .no, .no, .no]) (wb_lift (bs_set 10 Z.nd (be_div (be_v 8 rfl) be_int (by decide)))) ?_
    generalize cell / 3 = more at hD2 hsa2 ⊢
    refine wbs_cons (env1 := [.v (.list (ns.map .int)), .v (.int first), .v (.list [.int t.n0, .int t.n1]), .adrs [t.p0, t.p1], .adrs [t.r0, t.r1], .v (.int 24), .own (cs.map .int), .no, .v (.int cell), .v (.int (j : Int)), .v (.int more), .v (.bool true), .no, .no]) (wb_lift (bs_set 11 Z.nd be_bl)) ?_
    have vg := v_gs t s
    have vl := v_ls t s
    refine wbs_cons (env1 := [.v (.list (ns.map .int)), .v (.int first), .v (.list [.int t.n0, .int t.n1]), .adrs [t.p0, t.p1], .adrs [t.r0, t.r1], .v (.int 24), .own (cs.map .int), .no, .v (.int cell), .v (.int (j : Int)), .v (.int more), .v (.bool true), .v (.list ((stand sa).map sD)), .no]) (wb_setL (envv := [.no, .no, .no, .gnds (twoG t s), .no, .no, .no, .no, .no, .v (.int (j : Int)), .no, .no, .no, .no]) 12 Z.nd (.cons .no (.cons .no (.cons .no (.cons vg (.cons .no (.cons .no (.cons .no (.cons .no (.cons .no (.cons .v (.cons .no (.cons .no (.cons .no (.cons .no .nil)))))))))))))) (be_methVF (g := gOf t.C pa qa na sa) (G := gStandV mg) Gst (fun _ _ _ _ h => h) Z.hr (by decide) (bg_ix 3 rfl (be_v 9 rfl) hD.hg) ⟨t.C, pa, qa, na, sa, rfl, hCG, hsa, rfl⟩) (noLs_map noL_sD _)) ?_
    refine wbs_cons (env1 := [.v (.list (ns.map .int)), .v (.int first), .v (.list [.int t.n0, .int t.n1]), .adrs [t.p0, t.p1], .adrs [t.r0, t.r1], .v (.int 24), .own (cs.map .int), .no, .v (.int cell), .v (.int (j : Int)), .v (.int more), .v (.bool true), .v (.list ((stand sa).map sD)), .v (.list ((stand sa).map sD))]) (wb_setL (envv := [.no, .no, .no, .no, .no, .no, .no, .no, .no, .no, .no, .no, .v (.list ((stand sa).map sD)), .no]) 13 Z.nd (.cons .no (.cons .no (.cons .no (.cons .no (.cons .no (.cons .no (.cons .no (.cons .no (.cons .no (.cons .no (.cons .no (.cons .no (.cons .v (.cons .no .nil)))))))))))))) (be_listOf T.z_list (be_v 12 rfl)) (noLs_map noL_sD _)) ?_
    refine wbs_cons (env1 := [.v (.list (ns.map .int)), .v (.int first), .v (.list [.int t.n0, .int t.n1]), .adrs [t.p0, t.p1], .adrs [t.r0, t.r1], .v (.int 24), .own (cs.map .int), .no, .v (.int cell), .v (.int (j : Int)), .v (.int more), .v (.bool true), .v (.list ((stand sa).map sD)), .v (.list ((stand sa).map sD))]) (ω1 := wo t (put2 j s (deedR na sa more))) ?deed ?_
    case deed =>
      obtain ⟨ωr, pm1, pm2⟩ := hD.pm
      unfold deedR
      by_cases hev : more % 2 = 0
      · rw [if_pos hev]
        refine wb_ifT (envv := [.no, .no, .no, .no, .no, .no, .no, .no, .no, .no, .v (.int more), .no, .no, .no]) (.cons .no (.cons .no (.cons .no (.cons .no (.cons .no (.cons .no (.cons .no (.cons .no (.cons .no (.cons .no (.cons .v (.cons .no (.cons .no (.cons .no .nil)))))))))))))) (bt_eqI (be_mod (be_v 10 rfl) be_int (by decide)) be_int) (by simpa using hev) (wbs_one ?_)
        by_cases hac : more / 2 % 10 ≠ 0 ∧ (fncs sa).length < 16
        · rw [if_pos hac]
          exact WB.permN (wb_set 11 Z.nd (we_callM (d := .bool true) (G := gLputM mg) (ωc' := [.g (gOf t.C pa qa na (sa ++ [some (fenceB (more / 2 / 10) na)])), .l ra ((sa ++ [some (fenceB (more / 2 / 10) na)]).map rwD)]) (ωr := ωr) Gp (fun _ _ _ _ h => .inr h) Z.hr (by decide) (bv_ai 3 rfl (be_v 9 rfl) hD.hp (bv_ai 4 rfl (be_v 9 rfl) hD.hr (bv_d (be_div (be_v 10 rfl) be_int (by decide)) (bv_d (be_ix (d := .int na) (be_v 2 rfl) (be_v 9 rfl) hD.hn) bv_nil)))) pm1 ⟨t.C, pa, qa, ra, na, sa, more / 2, na, rfl, rfl, hCG, hsa, hna1, hac.1, hac.2, rfl, rfl⟩ rfl)) (pm2 _)
        · rw [if_neg hac, epj]
          have hrf : more / 2 % 10 = 0 ∨ (more / 2 % 10 ≠ 0 ∧ (fncs sa).length = 16) := by
            have := hsa.few
            by_cases q : more / 2 % 10 = 0
            · exact .inl q
            · exact .inr ⟨q, by omega⟩
          exact wb_setA (d := .bool true) (envv := [.no, .no, .v (.list [.int t.n0, .int t.n1]), .gnds (twoG t s), .v (.list (twoL s)), .no, .no, .no, .no, .v (.int (j : Int)), .v (.int more), .no, .no, .no]) 11 Z.nd (.cons .no (.cons .no (.cons .v (.cons vg (.cons vl (.cons .no (.cons .no (.cons .no (.cons .no (.cons .v (.cons .v (.cons .no (.cons .no (.cons .no .nil)))))))))))))) (be_callV (G := gLputV mg) (d := .bool true) Gp (fun _ _ _ _ h => .inl h) Z.hr (by decide) (bv_g (bg_ix 3 rfl (be_v 9 rfl) hD.hg) (bv_d (be_ix (be_v 4 rfl) (be_v 9 rfl) hD.hl) (bv_d (be_div (be_v 10 rfl) be_int (by decide)) (bv_d (be_ix (d := .int na) (be_v 2 rfl) (be_v 9 rfl) hD.hn) bv_nil)))) ⟨t.C, pa, qa, na, sa, more / 2, na, rfl, hCG, hsa, hna1, hrf, rfl⟩) rfl
      · rw [if_neg hev]
        refine wb_ifF (envv := [.no, .no, .no, .no, .no, .no, .no, .no, .no, .no, .v (.int more), .no, .no, .no]) (.cons .no (.cons .no (.cons .no (.cons .no (.cons .no (.cons .no (.cons .no (.cons .no (.cons .no (.cons .no (.cons .v (.cons .no (.cons .no (.cons .no .nil)))))))))))))) (bt_eqI (be_mod (be_v 10 rfl) be_int (by decide)) be_int) (by simpa using hev) (wbs_one ?_)
        by_cases hac : 0 < more / 2 % 4 ∧ 0 < sa.length ∧ rowAt sa (more / 2 / 4 % (sa.length : Int)) ≠ none
        · rw [if_pos hac]
          obtain ⟨z, hz⟩ : ∃ z, rowAt sa (more / 2 / 4 % (sa.length : Int)) = some z := by
            cases q : rowAt sa (more / 2 / 4 % (sa.length : Int)) with
            | none => exact absurd q hac.2.2
            | some z => exact ⟨z, rfl⟩
          exact WB.permN (wb_set 11 Z.nd (we_callM (d := .bool true) (G := gLtakeM mg) (ωc' := [.g (gOf t.C pa qa na (sa.set (more / 2 / 4 % (sa.length : Int)).toNat none)), .l ra ((sa.set (more / 2 / 4 % (sa.length : Int)).toNat none).map rwD)]) (ωr := ωr) Gt (fun _ _ _ _ h => .inr h) Z.hr (by decide) (bv_ai 3 rfl (be_v 9 rfl) hD.hp (bv_ai 4 rfl (be_v 9 rfl) hD.hr (bv_d (be_div (be_v 10 rfl) be_int (by decide)) bv_nil))) pm1 ⟨t.C, pa, qa, ra, na, sa, more / 2, z, rfl, rfl, hCG, hsa, hac.1, hac.2.1, hz, rfl, rfl⟩ rfl)) (pm2 _)
        · rw [if_neg hac, epj]
          exact wb_setA (d := .bool true) (envv := [.no, .no, .no, .gnds (twoG t s), .v (.list (twoL s)), .no, .no, .no, .no, .v (.int (j : Int)), .v (.int more), .no, .no, .no]) 11 Z.nd (.cons .no (.cons .no (.cons .no (.cons vg (.cons vl (.cons .no (.cons .no (.cons .no (.cons .no (.cons .v (.cons .v (.cons .no (.cons .no (.cons .no .nil)))))))))))))) (be_callV (G := gLtakeV mg) (d := .bool true) Gt (fun _ _ _ _ h => .inl h) Z.hr (by decide) (bv_g (bg_ix 3 rfl (be_v 9 rfl) hD.hg) (bv_d (be_ix (be_v 4 rfl) (be_v 9 rfl) hD.hl) (bv_d (be_div (be_v 10 rfl) be_int (by decide)) bv_nil))) ⟨t.C, pa, qa, na, sa, more / 2, rfl, hCG, hsa, hac, rfl⟩) rfl
    generalize deedR na sa more = sb at hD2 hsa2 ⊢
    generalize put2 j s sb = ss at hD2 ⊢
    have vgg := v_gs t ss
    have vll := v_ls t ss
    refine wbs_cons (wb_ifF (envv := [.no, .no, .no, .gnds (twoG t ss), .v (.list (twoL ss)), .no, .no, .no, .no, .v (.int (j : Int)), .no, .v (.bool true), .v (.list ((stand sa).map sD)), .v (.list ((stand sa).map sD))]) (.cons .no (.cons .no (.cons .no (.cons vgg (.cons vll (.cons .no (.cons .no (.cons .no (.cons .no (.cons .v (.cons .no (.cons .v (.cons .v (.cons .v .nil)))))))))))))) (bw_or (bt_not (bt_val (be_v 11 rfl))) (fun _ => bw_or (bt_not (bt_val (be_callV (G := gLstV mg) (d := .bool true) Gs (fun _ _ _ _ h => h) Z.hr (by decide) (bv_g (bg_ix 3 rfl (be_v 9 rfl) hD2.hg) (bv_d (be_ix (be_v 4 rfl) (be_v 9 rfl) hD2.hl) bv_nil)) ⟨t.C, pa, qa, na, sb, rfl, hCG, hsa2, rfl⟩))) (fun _ => bw_or1 (bt_neD Z.u (be_v 12 rfl).r (be_v 13 rfl).r (shaped_sDs _) (shaped_sDs _))))).t (by rw [eqv_sDs, decide_eq_true rfl]; rfl) wbs_nil) ?_
    by_cases hlast : (decide (cell / 60 % 3 = 1) && decide ((((stand sb).map sD).length : Int) < 6)) = true
    · exact wbs_one (wb_ifT (envv := [.no, .no, .no, .gnds (twoG t ss), .no, .no, .no, .no, .v (.int cell), .v (.int (j : Int)), .no, .no, .no, .no]) (.cons .no (.cons .no (.cons .no (.cons vgg (.cons .no (.cons .no (.cons .no (.cons .no (.cons .v (.cons .v (.cons .no (.cons .no (.cons .no (.cons .no .nil)))))))))))))) (bw_and (bt_eqI (be_mod (be_div (be_v 8 rfl) be_int (by decide)) be_int (by decide)) be_int) (fun _ => bw_and1 (bt_lt (be_len T.z_len (BE.list (be_methVF (g := gOf t.C pa qa na sb) (G := gStandV mg) (ds := (stand sb).map sD) Gst (fun _ _ _ _ h => h) Z.hr (by decide) (bg_ix 3 rfl (be_v 9 rfl) hD2.hg) ⟨t.C, pa, qa, na, sb, rfl, hCG, hsa2, rfl⟩)).r) be_int))).t hlast (wbs_one (wb_ifF (envv := [.no, .no, .v (.list [.int t.n0, .int t.n1]), .gnds (twoG t ss), .v (.list (twoL ss)), .no, .no, .no, .no, .v (.int (j : Int)), .no, .no, .no, .no]) (.cons .no (.cons .no (.cons .v (.cons vgg (.cons vll (.cons .no (.cons .no (.cons .no (.cons .no (.cons .v (.cons .no (.cons .no (.cons .no (.cons .no .nil)))))))))))))) (bt_not (bt_val (be_callV (G := gLendV mg) (d := .bool true) Ge (fun _ _ _ _ h => h) Z.hr (by decide) (bv_g (bg_ix 3 rfl (be_v 9 rfl) hD2.hg) (bv_d (be_ix (be_v 4 rfl) (be_v 9 rfl) hD2.hl) (bv_d (be_ix (d := .int na) (be_v 2 rfl) (be_v 9 rfl) hD2.hn) bv_nil))) ⟨t.C, pa, qa, na, sb, rfl, hCG, hsa2, hna, rfl⟩))) rfl wbs_nil)))
    · exact wbs_one (wb_ifF (envv := [.no, .no, .no, .gnds (twoG t ss), .no, .no, .no, .no, .v (.int cell), .v (.int (j : Int)), .no, .no, .no, .no]) (.cons .no (.cons .no (.cons .no (.cons vgg (.cons .no (.cons .no (.cons .no (.cons .no (.cons .v (.cons .v (.cons .no (.cons .no (.cons .no (.cons .no .nil)))))))))))))) (bw_and (bt_eqI (be_mod (be_div (be_v 8 rfl) be_int (by decide)) be_int (by decide)) be_int) (fun _ => bw_and1 (bt_lt (be_len T.z_len (BE.list (be_methVF (g := gOf t.C pa qa na sb) (G := gStandV mg) (ds := (stand sb).map sD) Gst (fun _ _ _ _ h => h) Z.hr (by decide) (bg_ix 3 rfl (be_v 9 rfl) hD2.hg) ⟨t.C, pa, qa, na, sb, rfl, hCG, hsa2, rfl⟩)).r) be_int))).t (by simpa using hlast) wbs_nil)
  rw [Nat.zero_add] at hfin
  generalize (cs ++ cutA ns (some 2) (some (2 + 24))).foldl (stepL t) ([], []) = s at hfin ⊢
  have hLn : (cs ++ cutA ns (some 2) (some (2 + 24))).length < 190 := by omega
  generalize (cs ++ cutA ns (some 2) (some (2 + 24))).length = iN at hfin hLn
  have vg := v_gs t s
  have vl := v_ls t s
  refine wbs_cons (env1 := [.v (.list (ns.map .int)), .v (.int first), .v (.list [.int t.n0, .int t.n1]), .adrs [t.p0, t.p1], .adrs [t.r0, t.r1], .v (.int 24), .own (cs.map .int), .no, .no, .no, .no, .no, .no, .no]) (ω1 := wo t s) (wb_for 7 Z.hp Z.calm Z.nd (bi_rng1 T.z_range be_int (by decide) (by decide)) ?lp2) ?_
  case lp2 =>
    rw [irng0]
    refine (wlp_foldJ (α := Nat) (β := Unit) (fun _ => [.v (.list (ns.map .int)), .v (.int first), .v (.list [.int t.n0, .int t.n1]), .adrs [t.p0, t.p1], .adrs [t.r0, t.r1], .v (.int 24), .own (cs.map .int), .no, .no, .no, .no, .no, .no, .no]) (fun _ => wo t s) (fun (j : Nat) => PyData.int (j : Int)) (fun _ _ => ()) (fun _ _ => True) 2 (List.range 2) 0 () (by simp) trivial ?_).1
    intro i _ j hj _ _
    refine ⟨?_, trivial⟩
    have hj2 : j < 2 := by simpa using hj
    have hD2 := dd_get t s j hj2
    obtain ⟨hsa2, hsl2⟩ := inv_sel (j := j) hfin
    obtain ⟨hna, hna1⟩ := hsel j
    generalize sel j t.n0 t.n1 = na at hD2 hna hna1
    generalize sel j t.p0 t.p1 = pa at hD2
    generalize sel j t.q0 t.q1 = qa at hD2
    generalize sel j t.r0 t.r1 = ra at hD2
    generalize sel j s.1 s.2 = sb at hD2 hsa2
    refine WBs.fgs [7] (env1 := [.v (.list (ns.map .int)), .v (.int first), .v (.list [.int t.n0, .int t.n1]), .adrs [t.p0, t.p1], .adrs [t.r0, t.r1], .v (.int 24), .own (cs.map .int), .v (.int (j : Int)), .no, .no, .no, .no, .no, .no]) ?_
    exact wbs_one (wb_ifF (envv := [.no, .no, .v (.list [.int t.n0, .int t.n1]), .gnds (twoG t s), .v (.list (twoL s)), .no, .no, .v (.int (j : Int)), .no, .no, .no, .no, .no, .no]) (.cons .no (.cons .no (.cons .v (.cons vg (.cons vl (.cons .no (.cons .no (.cons .v (.cons .no (.cons .no (.cons .no (.cons .no (.cons .no (.cons .no .nil)))))))))))))) (bw_or (bt_not (bt_val (be_callV (G := gLstV mg) (d := .bool true) Gs (fun _ _ _ _ h => h) Z.hr (by decide) (bv_g (bg_ix 3 rfl (be_v 7 rfl) hD2.hg) (bv_d (be_ix (be_v 4 rfl) (be_v 7 rfl) hD2.hl) bv_nil)) ⟨t.C, pa, qa, na, sb, rfl, hCG, hsa2, rfl⟩))) (fun _ => bw_or1 (bt_not (bt_val (be_callV (G := gLendV mg) (d := .bool true) Ge (fun _ _ _ _ h => h) Z.hr (by decide) (bv_g (bg_ix 3 rfl (be_v 7 rfl) hD2.hg) (bv_d (be_ix (be_v 4 rfl) (be_v 7 rfl) hD2.hl) (bv_d (be_ix (d := .int na) (be_v 2 rfl) (be_v 7 rfl) hD2.hn) bv_nil))) ⟨t.C, pa, qa, na, sb, rfl, hCG, hsa2, hna, rfl⟩))))).t rfl wbs_nil)
  obtain ⟨j, hj, ej⟩ : ∃ j : Nat, j < 2 ∧ first / 3 % 2 = (j : Int) := ⟨(first / 3 % 2).toNat, by omega, by omega⟩
  refine wbs_cons (env1 := [.v (.list (ns.map .int)), .v (.int first), .v (.list [.int t.n0, .int t.n1]), .adrs [t.p0, t.p1], .adrs [t.r0, t.r1], .v (.int 24), .own (cs.map .int), .no, .no, .v (.int (j : Int)), .no, .no, .no, .no]) (wb_lift (BS.to (bs_set 9 Z.nd (be_mod (be_div (be_v 1 rfl) be_int (by decide)) be_int (by decide))) (by rw [ej]; rfl))) ?_
  have hD := dd_get t s j hj
  obtain ⟨hsa, hsl⟩ := inv_sel (j := j) hfin
  obtain ⟨hna, hna1⟩ := hsel j
  generalize sel j t.n0 t.n1 = na at hD hna hna1
  generalize sel j t.p0 t.p1 = pa at hD
  generalize sel j t.q0 t.q1 = qa at hD
  generalize sel j t.r0 t.r1 = ra at hD
  generalize sel j s.1 s.2 = sa at hD hsa hsl
  obtain ⟨ωr, pm1, pm2⟩ := hD.pm
  exact WBs.weak (wbs_one (wb_retM (we_callM (d := .bool true) (G := gLagM mg) (ωc' := [.g (gOf t.C pa qa na (agW sa (first / 6) na)), .l ra ((agW sa (first / 6) na).map rwD)]) (ωr := ωr) Ga (fun _ _ _ _ h => h) Z.hr (by decide) (bv_ai 3 rfl (be_v 9 rfl) hD.hp (bv_ai 4 rfl (be_v 9 rfl) hD.hr (bv_d (be_ix (d := .int na) (be_v 2 rfl) (be_v 9 rfl) hD.hn) (bv_d (be_div (be_v 1 rfl) be_int (by decide)) bv_nil)))) pm1 ⟨t.C, pa, qa, ra, na, sa, first / 6, rfl, rfl, hCG, hsa, hna, by omega, rfl, rfl⟩ rfl)))
end

/-- the law's promise: True, whatever the script -/
def gLaw : List D → Rs → Prop := fun as r => ∃ ns : List Int, as = [.list (ns.map .int)] ∧ ns.length ≤ 63 ∧ r = .ok (.bool true)
theorem finish {l : PySem.W.OpenLaw} {w : World} {K : PySem.W.Frag} {mg : Str → Option Value} {fa : Addr} (hmg : mg "law" = some (.ref fa)) (T : ∃ c, Top K mg c) :
    ∃ fd : FuncData, (∀ (s : Shared) (u : Value), BindsTo s fd ⟨[u], []⟩ [("_law_script", u)]) ∧ ∀ base : Heap, K.In base → base.Ns mainGlobals mg → FnOk l.prog w K mg base (L2.CX l.prog w) 40 fa fd ["_law_script"] (spD K gLaw) := by
  obtain ⟨c, T⟩ := T
  obtain ⟨f, fd, F, hm⟩ := T.f_law.ex
  cases hmg.symm.trans hm
  have hb := F.binds (ps := ["_law_script"]) fun _ _ _ _ _ _ us hl => match us, hl with | [_], _ => rfl
  obtain ⟨oc, od, kV, doc, pm, an, cdv, ct, osl, rfl, _, _⟩ := F.ex
  exact ⟨_, fun s u => .of_eq rfl, fun base _ _ => ok_law F T⟩
theorem asked {K : PySem.W.Frag} {H : Hp} {a : Addr} {ns : List Int} (hl : ns.length ≤ 63) (hS : SqL K H a (ns.map V.int)) : spD K gLaw [.ref a] H (fun v _ => v = .bl true) fun _ _ _ => False :=
  ⟨H, _, _, Same.refl _, .cons (.lst hS (dpAll_ints ns)) .nil, ⟨ns, rfl, hl, rfl⟩, fun v F' H' g hd => dp_bl hd⟩
end LL
open PySem PySem.W PyProof.Rows
set_option maxRecDepth 100000 in
set_option maxHeartbeats 0 in
theorem PySem.Challenge.cw_landlines_k09_a_ground_kept_holds : PySem.Challenge.rw_landlines_k09_a_ground_kept.Holds := by
  w_on; o_law; k_head; (case hw => w_witness2)
  k_fill
  refine L2.walk_of (l := PySem.Challenge.rw_landlines_k09_a_ground_kept) (n := 63) (k := 40) (x := "_law_script") (CX := fun w => L2.CX (PySem.Challenge.rw_landlines_k09_a_ground_kept).prog w) (sp := fun w => PD.spD _ LL.gLaw) rfl (by decide) rfl ⟨rfl, by decide, by decide⟩ (fun w h Y => PySem.W.kIn_of Y) ?F (fun _ _ a ns hl _ hS => LL.asked hl hS) (fun _ _ _ _ _ h => by obtain ⟨_, _, _, _, _, _, _, _, _, _, _, _, z⟩ := h; exact z)
  case F =>
    intro w mg fa h KX G hmg
    refine' LL.finish hmg (LL.top_mk ?z_e0 ?z_e1 ?z_e2 ?z_e3 ?z_e4 ?z_e5 ?z_e6 ?z_e7 ?z_x1 ?z_x2 ?z_x3 ?z_x4 ?z_x5 ?z_x6 ?z_x7 ?z_hd0 ?z_hn ?z_ht ?z_p12 ?z_p13 ?z_p14 ?z_p15 ?z_p16 ?z_p17 ?z_p21 ?z_p23 ?z_p24 ?z_p25 ?z_p26 ?z_p27 ?z_p31 ?z_p32 ?z_p34 ?z_p35 ?z_p36 ?z_p37 ?z_p41 ?z_p42 ?z_p43 ?z_p45 ?z_p46 ?z_p47 ?z_p51 ?z_p52 ?z_p53 ?z_p54 ?z_p56 ?z_p57 ?z_p61 ?z_p62 ?z_p63 ?z_p64 ?z_p65 ?z_p67 ?z_p71 ?z_p72 ?z_p73 ?z_p74 ?z_p75 ?z_p76 ?z_f_is_whole ?z_f_shared ?z_f_spot_of ?z_f_turn ?z_f_is_lower ?z_f_need_fence ?z_f_need_size ?z_f_edges ?z_f_with_edges ?z_f_reach ?z_f_cross ?z_f_meeting ?z_f_keeps ?z_f_meetings ?z_f_in_order ?z_f_corners ?z_f_twice_area ?z_f_L_cell_at ?z_f_L_whole ?z_f_L_size_by ?z_f_L_fence_by ?z_f_L_names ?z_f_L_size_refused ?z_f_L_put ?z_f_L_take ?z_f_L_standing ?z_f_L_ended ?z_f_L_again ?z_f_law ?z_z_isinstance ?z_z_int ?z_z_bool ?z_z_abs ?z_z_tuple ?z_z_len ?z_z_range ?z_z_list ?z_z_sorted ?z_z_max ?z_z_min ?z_z_ValueError ?z_g_MOST_SIZE ?z_g_MOST_STEP ?z_g_MOST_SIDE ?z_g_MOST_FENCES ?z_al1corners_land ?z_al2corners_land ?z_oGround ?z_oGroundpg ?z_oGroundhd ?z_oGroundpo ?z_oGroundsa ?z_oGroundmk ?z_oGroundkp ?z_oGroundnsize ?z_oGroundnkept ?z_oGroundncame ?z_oGroundminit ?z_oGroundmput ?z_oGroundmtake ?z_oGroundmstanding ?z_oGroundmstretch ?z_oGroundmcorners ?z_oGroundmarea)
    (case z_e0 => refine' PD.ec_mk KX G ?zA ?zQ ?zK ?zB ?zT; (case zA => k_is); (case zQ => k_exc); (case zK => k_is); (case zB => k_is); (case zT => k_is))
    (case z_e1 => refine' PD.ec_mk KX G ?zA ?zQ ?zK ?zB ?zT; (case zA => k_is); (case zQ => k_exc); (case zK => k_is); (case zB => k_is); (case zT => k_is))
    (case z_e2 => refine' PD.ec_mk KX G ?zA ?zQ ?zK ?zB ?zT; (case zA => k_is); (case zQ => k_exc); (case zK => k_is); (case zB => k_is); (case zT => k_is))
    (case z_e3 => refine' PD.ec_mk KX G ?zA ?zQ ?zK ?zB ?zT; (case zA => k_is); (case zQ => k_exc); (case zK => k_is); (case zB => k_is); (case zT => k_is))
    (case z_e4 => refine' PD.ec_mk KX G ?zA ?zQ ?zK ?zB ?zT; (case zA => k_is); (case zQ => k_exc); (case zK => k_is); (case zB => k_is); (case zT => k_is))
    (case z_e5 => refine' PD.ec_mk KX G ?zA ?zQ ?zK ?zB ?zT; (case zA => k_is); (case zQ => k_exc); (case zK => k_is); (case zB => k_is); (case zT => k_is))
    (case z_e6 => refine' PD.ec_mk KX G ?zA ?zQ ?zK ?zB ?zT; (case zA => k_is); (case zQ => k_exc); (case zK => k_is); (case zB => k_is); (case zT => k_is))
    (case z_e7 => refine' PD.ec_mk KX G ?zA ?zQ ?zK ?zB ?zT; (case zA => k_is); (case zQ => k_exc); (case zK => k_is); (case zB => k_is); (case zT => k_is))
    (case z_x1 => refine' ⟨?z1, ?z2, ?z3, ?z4, ?z5, ?z6, ?z7, ?z8⟩; (case z1 => k_is); (case z2 => k_is); (case z3 => k_is); (case z4 => k_is); (case z5 => k_is); (case z6 => k_is); (case z7 => k_is); (case z8 => first | rfl | k_is))
    (case z_x2 => refine' ⟨?z1, ?z2, ?z3, ?z4, ?z5, ?z6, ?z7, ?z8⟩; (case z1 => k_is); (case z2 => k_is); (case z3 => k_is); (case z4 => k_is); (case z5 => k_is); (case z6 => k_is); (case z7 => k_is); (case z8 => first | rfl | k_is))
    (case z_x3 => refine' ⟨?z1, ?z2, ?z3, ?z4, ?z5, ?z6, ?z7, ?z8⟩; (case z1 => k_is); (case z2 => k_is); (case z3 => k_is); (case z4 => k_is); (case z5 => k_is); (case z6 => k_is); (case z7 => k_is); (case z8 => first | rfl | k_is))
    (case z_x4 => refine' ⟨?z1, ?z2, ?z3, ?z4, ?z5, ?z6, ?z7, ?z8⟩; (case z1 => k_is); (case z2 => k_is); (case z3 => k_is); (case z4 => k_is); (case z5 => k_is); (case z6 => k_is); (case z7 => k_is); (case z8 => first | rfl | k_is))
    (case z_x5 => refine' ⟨?z1, ?z2, ?z3, ?z4, ?z5, ?z6, ?z7, ?z8⟩; (case z1 => k_is); (case z2 => k_is); (case z3 => k_is); (case z4 => k_is); (case z5 => k_is); (case z6 => k_is); (case z7 => k_is); (case z8 => first | rfl | k_is))
    (case z_x6 => refine' ⟨?z1, ?z2, ?z3, ?z4, ?z5, ?z6, ?z7, ?z8⟩; (case z1 => k_is); (case z2 => k_is); (case z3 => k_is); (case z4 => k_is); (case z5 => k_is); (case z6 => k_is); (case z7 => k_is); (case z8 => first | rfl | k_is))
    (case z_x7 => refine' ⟨?z1, ?z2, ?z3, ?z4, ?z5, ?z6, ?z7, ?z8⟩; (case z1 => k_is); (case z2 => k_is); (case z3 => k_is); (case z4 => k_is); (case z5 => k_is); (case z6 => k_is); (case z7 => k_is); (case z8 => first | rfl | k_is))
    (case z_hd0 => k_is)
    (case z_hn => k_is)
    (case z_ht => k_is)
    (case z_p12 => k_is)
    (case z_p13 => k_is)
    (case z_p14 => k_is)
    (case z_p15 => k_is)
    (case z_p16 => k_is)
    (case z_p17 => k_is)
    (case z_p21 => k_is)
    (case z_p23 => k_is)
    (case z_p24 => k_is)
    (case z_p25 => k_is)
    (case z_p26 => k_is)
    (case z_p27 => k_is)
    (case z_p31 => k_is)
    (case z_p32 => k_is)
    (case z_p34 => k_is)
    (case z_p35 => k_is)
    (case z_p36 => k_is)
    (case z_p37 => k_is)
    (case z_p41 => k_is)
    (case z_p42 => k_is)
    (case z_p43 => k_is)
    (case z_p45 => k_is)
    (case z_p46 => k_is)
    (case z_p47 => k_is)
    (case z_p51 => k_is)
    (case z_p52 => k_is)
    (case z_p53 => k_is)
    (case z_p54 => k_is)
    (case z_p56 => k_is)
    (case z_p57 => k_is)
    (case z_p61 => k_is)
    (case z_p62 => k_is)
    (case z_p63 => k_is)
    (case z_p64 => k_is)
    (case z_p65 => k_is)
    (case z_p67 => k_is)
    (case z_p71 => k_is)
    (case z_p72 => k_is)
    (case z_p73 => k_is)
    (case z_p74 => k_is)
    (case z_p75 => k_is)
    (case z_p76 => k_is)
    (case z_f_is_whole => refine' PD.funT_mk KX G ?zA ?zL ?zC ?zK; (case zA => k_is); (case zL => k_is); (case zC => k_is); (case zK => k_is))
    (case z_f_shared => refine' PD.funT_mk KX G ?zA ?zL ?zC ?zK; (case zA => k_is); (case zL => k_is); (case zC => k_is); (case zK => k_is))
    (case z_f_spot_of => refine' PD.funT_mk KX G ?zA ?zL ?zC ?zK; (case zA => k_is); (case zL => k_is); (case zC => k_is); (case zK => k_is))
    (case z_f_turn => refine' PD.funT_mk KX G ?zA ?zL ?zC ?zK; (case zA => k_is); (case zL => k_is); (case zC => k_is); (case zK => k_is))
    (case z_f_is_lower => refine' PD.funT_mk KX G ?zA ?zL ?zC ?zK; (case zA => k_is); (case zL => k_is); (case zC => k_is); (case zK => k_is))
    (case z_f_need_fence => refine' PD.funT_mk KX G ?zA ?zL ?zC ?zK; (case zA => k_is); (case zL => k_is); (case zC => k_is); (case zK => k_is))
    (case z_f_need_size => refine' PD.funT_mk KX G ?zA ?zL ?zC ?zK; (case zA => k_is); (case zL => k_is); (case zC => k_is); (case zK => k_is))
    (case z_f_edges => refine' PD.funT_mk KX G ?zA ?zL ?zC ?zK; (case zA => k_is); (case zL => k_is); (case zC => k_is); (case zK => k_is))
    (case z_f_with_edges => refine' PD.funT_mk KX G ?zA ?zL ?zC ?zK; (case zA => k_is); (case zL => k_is); (case zC => k_is); (case zK => k_is))
    (case z_f_reach => refine' PD.funT_mk KX G ?zA ?zL ?zC ?zK; (case zA => k_is); (case zL => k_is); (case zC => k_is); (case zK => k_is))
    (case z_f_cross => refine' PD.funT_mk KX G ?zA ?zL ?zC ?zK; (case zA => k_is); (case zL => k_is); (case zC => k_is); (case zK => k_is))
    (case z_f_meeting => refine' PD.funT_mk KX G ?zA ?zL ?zC ?zK; (case zA => k_is); (case zL => k_is); (case zC => k_is); (case zK => k_is))
    (case z_f_keeps => refine' PD.funT_mk KX G ?zA ?zL ?zC ?zK; (case zA => k_is); (case zL => k_is); (case zC => k_is); (case zK => k_is))
    (case z_f_meetings => refine' PD.funT_mk KX G ?zA ?zL ?zC ?zK; (case zA => k_is); (case zL => k_is); (case zC => k_is); (case zK => k_is))
    (case z_f_in_order => refine' PD.funT_mk KX G ?zA ?zL ?zC ?zK; (case zA => k_is); (case zL => k_is); (case zC => k_is); (case zK => k_is))
    (case z_f_corners => refine' PD.funT_mk KX G ?zA ?zL ?zC ?zK; (case zA => k_is); (case zL => k_is); (case zC => k_is); (case zK => k_is))
    (case z_f_twice_area => refine' PD.funT_mk KX G ?zA ?zL ?zC ?zK; (case zA => k_is); (case zL => k_is); (case zC => k_is); (case zK => k_is))
    (case z_f_L_cell_at => refine' PD.funT_mk KX G ?zA ?zL ?zC ?zK; (case zA => k_is); (case zL => k_is); (case zC => k_is); (case zK => k_is))
    (case z_f_L_whole => refine' PD.funT_mk KX G ?zA ?zL ?zC ?zK; (case zA => k_is); (case zL => k_is); (case zC => k_is); (case zK => k_is))
    (case z_f_L_size_by => refine' PD.funT_mk KX G ?zA ?zL ?zC ?zK; (case zA => k_is); (case zL => k_is); (case zC => k_is); (case zK => k_is))
    (case z_f_L_fence_by => refine' PD.funT_mk KX G ?zA ?zL ?zC ?zK; (case zA => k_is); (case zL => k_is); (case zC => k_is); (case zK => k_is))
    (case z_f_L_names => refine' PD.funT_mk KX G ?zA ?zL ?zC ?zK; (case zA => k_is); (case zL => k_is); (case zC => k_is); (case zK => k_is))
    (case z_f_L_size_refused => refine' PD.funT_mk KX G ?zA ?zL ?zC ?zK; (case zA => k_is); (case zL => k_is); (case zC => k_is); (case zK => k_is))
    (case z_f_L_put => refine' PD.funT_mk KX G ?zA ?zL ?zC ?zK; (case zA => k_is); (case zL => k_is); (case zC => k_is); (case zK => k_is))
    (case z_f_L_take => refine' PD.funT_mk KX G ?zA ?zL ?zC ?zK; (case zA => k_is); (case zL => k_is); (case zC => k_is); (case zK => k_is))
    (case z_f_L_standing => refine' PD.funT_mk KX G ?zA ?zL ?zC ?zK; (case zA => k_is); (case zL => k_is); (case zC => k_is); (case zK => k_is))
    (case z_f_L_ended => refine' PD.funT_mk KX G ?zA ?zL ?zC ?zK; (case zA => k_is); (case zL => k_is); (case zC => k_is); (case zK => k_is))
    (case z_f_L_again => refine' PD.funT_mk KX G ?zA ?zL ?zC ?zK; (case zA => k_is); (case zL => k_is); (case zC => k_is); (case zK => k_is))
    (case z_f_law => refine' PD.funT_mk KX G ?zA ?zL ?zC ?zK; (case zA => k_is); (case zL => k_is); (case zC => k_is); (case zK => k_is))
    (case z_z_isinstance => exact PySem.W.mg_none_of KX G (by k_is))
    (case z_z_int => exact PySem.W.mg_none_of KX G (by k_is))
    (case z_z_bool => exact PySem.W.mg_none_of KX G (by k_is))
    (case z_z_abs => exact PySem.W.mg_none_of KX G (by k_is))
    (case z_z_tuple => exact PySem.W.mg_none_of KX G (by k_is))
    (case z_z_len => exact PySem.W.mg_none_of KX G (by k_is))
    (case z_z_range => exact PySem.W.mg_none_of KX G (by k_is))
    (case z_z_list => exact PySem.W.mg_none_of KX G (by k_is))
    (case z_z_sorted => exact PySem.W.mg_none_of KX G (by k_is))
    (case z_z_max => exact PySem.W.mg_none_of KX G (by k_is))
    (case z_z_min => exact PySem.W.mg_none_of KX G (by k_is))
    (case z_z_ValueError => exact PySem.W.mg_none_of KX G (by k_is))
    (case z_g_MOST_SIZE => clear hmg; exact ⟨_, (PySem.W.mg_of KX G (by k_is)).trans (by exact rfl)⟩)
    (case z_g_MOST_STEP => clear hmg; exact ⟨_, (PySem.W.mg_of KX G (by k_is)).trans (by exact rfl)⟩)
    (case z_g_MOST_SIDE => clear hmg; exact ⟨_, (PySem.W.mg_of KX G (by k_is)).trans (by exact rfl)⟩)
    (case z_g_MOST_FENCES => clear hmg; exact ⟨_, (PySem.W.mg_of KX G (by k_is)).trans (by exact rfl)⟩)
    (case z_al1corners_land => exact PySem.W.mg_of KX G (by k_is))
    (case z_al2corners_land => exact PySem.W.mg_of KX G (by k_is))
    (case z_oGround => exact PySem.W.mg_of KX G (by k_is))
    (case z_oGroundpg => k_is)
    (case z_oGroundhd => k_is)
    (case z_oGroundpo => k_is)
    (case z_oGroundsa => k_is)
    (case z_oGroundmk => k_is)
    (case z_oGroundkp => k_is)
    (case z_oGroundnsize => k_is)
    (case z_oGroundnkept => k_is)
    (case z_oGroundncame => k_is)
    (case z_oGroundminit => refine' PD.methT_mk ?zA ?zI ?zL ?zC ?zK; (case zA => k_is); (case zI => k_is); (case zL => k_is); (case zC => k_is); (case zK => k_is))
    (case z_oGroundmput => refine' PD.methT_mk ?zA ?zI ?zL ?zC ?zK; (case zA => k_is); (case zI => k_is); (case zL => k_is); (case zC => k_is); (case zK => k_is))
    (case z_oGroundmtake => refine' PD.methT_mk ?zA ?zI ?zL ?zC ?zK; (case zA => k_is); (case zI => k_is); (case zL => k_is); (case zC => k_is); (case zK => k_is))
    (case z_oGroundmstanding => refine' PD.methT_mk ?zA ?zI ?zL ?zC ?zK; (case zA => k_is); (case zI => k_is); (case zL => k_is); (case zC => k_is); (case zK => k_is))
    (case z_oGroundmstretch => refine' PD.methT_mk ?zA ?zI ?zL ?zC ?zK; (case zA => k_is); (case zI => k_is); (case zL => k_is); (case zC => k_is); (case zK => k_is))
    (case z_oGroundmcorners => refine' PD.methT_mk ?zA ?zI ?zL ?zC ?zK; (case zA => k_is); (case zI => k_is); (case zL => k_is); (case zC => k_is); (case zK => k_is))
    (case z_oGroundmarea => refine' PD.methT_mk ?zA ?zI ?zL ?zC ?zK; (case zA => k_is); (case zI => k_is); (case zL => k_is); (case zC => k_is); (case zK => k_is))
