import PyProof.Rows.All
import HandS.ForMost
import HandS.Wide
import HandS.Flow
import HandS.IsInst
import Wide.All
import OpenK.AllK
import Wide.FinOn
import PySem.Challenge.RW_roothold_k02_simplest_fractions
set_option Elab.async false
set_option linter.all false
set_option maxRecDepth 100000
set_option maxHeartbeats 4000000
/-! Dn, part 1: plain data, its representation in the tracked heap, the state relation. -/
namespace Dn
open PySem PySem.Spec PyProof.Rows L2

/-- plain data -/
inductive D where
  | non | bl (b : Bool) | int (i : Int) | str (x : Str)
  | lst (xs : List D) | tup (xs : List D) | frz (xs : List D)
  | obj (c : Str) (ks : List Str) (ds : List D)

mutual
inductive Rep (K : PySem.W.Frag) (mg : Str → Option Value) (F : Hp) : V → D → Prop
  | non : Rep K mg F .non .non
  | bl (b : Bool) : Rep K mg F (.bl b) (.bl b)
  | int (i : Int) : Rep K mg F (.int i) (.int i)
  | str (x : Str) : Rep K mg F (.str x) (.str x)
  | lst {a : Addr} {xs : List V} {ds : List D} : F a = some (.lst xs) → Reps K mg F xs ds → Rep K mg F (.ref a) (.lst ds)
  | tup {a : Addr} {xs : List V} {ds : List D} : SqT K F a xs → Reps K mg F xs ds → Rep K mg F (.ref a) (.tup ds)
  | frz {a : Addr} {xs : List V} {ds : List D} : SqL K F a xs → Reps K mg F xs ds → Rep K mg F (.ref a) (.frz ds)
  | obj {a C dx : Addr} {c : Str} {ks : List Str} {vs : List V} {ds : List D} : mg c = some (.ref C) → F a = some (.ins C dx (ks.zip vs)) → ks.length = vs.length → Reps K mg F vs ds → Rep K mg F (.ref a) (.obj c ks ds)
inductive Reps (K : PySem.W.Frag) (mg : Str → Option Value) (F : Hp) : List V → List D → Prop
  | nil : Reps K mg F [] []
  | cons {v : V} {vs : List V} {d : D} {ds : List D} : Rep K mg F v d → Reps K mg F vs ds → Reps K mg F (v :: vs) (d :: ds)
end

theorem same_t {K : PySem.W.Frag} {H H' : Hp} {a : Addr} {xs : List V} (e : Same H H') (h : SqT K H a xs) : SqT K H' a xs := by
  rcases h with (h | ⟨o, h⟩) | h
  · exact .inl (.inl (e _ _ h))
  · exact .inl (.inr ⟨o, e _ _ h⟩)
  · exact .inr h
theorem same_upd {H : Hp} {p : Addr} {o : HO} (h : H p = none) : Same H (upd H p o) := fun b x e => by
  rw [upd_ne (ne_of_none e h)]
  exact e

section
variable {K : PySem.W.Frag} {mg : Str → Option Value} {F F' H H' : Hp}
mutual
theorem Rep.mono (e : Same F F') : ∀ (d : D) (v : V), Rep K mg F v d → Rep K mg F' v d
  | .non, _, h => by cases h; exact .non
  | .bl _, _, h => by cases h; exact .bl _
  | .int _, _, h => by cases h; exact .int _
  | .str _, _, h => by cases h; exact .str _
  | .lst ds, _, h => by
    cases h with
    | lst h1 h2 => exact .lst (e _ _ h1) (Reps.mono e ds _ h2)
  | .tup ds, _, h => by
    cases h with
    | tup h1 h2 => exact .tup (same_t e h1) (Reps.mono e ds _ h2)
  | .frz ds, _, h => by
    cases h with
    | frz h1 h2 => exact .frz (e.seq h1) (Reps.mono e ds _ h2)
  | .obj c ks ds, _, h => by
    cases h with
    | obj h1 h2 h3 h4 => exact .obj h1 (e _ _ h2) h3 (Reps.mono e ds _ h4)
theorem Reps.mono (e : Same F F') : ∀ (ds : List D) (vs : List V), Reps K mg F vs ds → Reps K mg F' vs ds
  | [], _, h => by cases h; exact .nil
  | d :: ds, _, h => by
    cases h with
    | cons h1 h2 => exact .cons (Rep.mono e d _ h1) (Reps.mono e ds _ h2)
end
theorem Rep.up {v : V} {d : D} (h : Rep K mg F v d) (e : Same F F') : Rep K mg F' v d := Rep.mono e d v h
theorem Reps.up {vs : List V} {ds : List D} (h : Reps K mg F vs ds) (e : Same F F') : Reps K mg F' vs ds := Reps.mono e ds vs h
theorem Reps.len : ∀ {vs : List V} {ds : List D}, Reps K mg F vs ds → vs.length = ds.length
  | _, _, .nil => rfl
  | _, _, .cons _ h => by rw [List.length_cons, List.length_cons, h.len]
theorem Reps.get : ∀ {vs : List V} {ds : List D} {i : Nat} {d : D}, Reps K mg F vs ds → ds[i]? = some d → ∃ v, vs[i]? = some v ∧ Rep K mg F v d
  | _, _, _, _, .nil, e => by simp at e
  | _, _, 0, _, .cons h _, e => by simp at e; subst e; exact ⟨_, rfl, h⟩
  | _, _, i + 1, d, .cons _ h, e => by
    obtain ⟨v, h1, h2⟩ := Reps.get (i := i) (d := d) h (by simpa using e)
    exact ⟨v, by simpa using h1, h2⟩
theorem Reps.getV : ∀ {vs : List V} {ds : List D} {i : Nat} {v : V}, Reps K mg F vs ds → vs[i]? = some v → ∃ d, ds[i]? = some d ∧ Rep K mg F v d
  | _, _, _, _, .nil, e => by simp at e
  | _, _, 0, _, .cons h _, e => by simp at e; subst e; exact ⟨_, rfl, h⟩
  | _, _, i + 1, v, .cons _ h, e => by
    obtain ⟨d, h1, h2⟩ := Reps.getV (i := i) (v := v) h (by simpa using e)
    exact ⟨d, by simpa using h1, h2⟩
theorem Reps.app : ∀ {vs ws : List V} {ds es : List D}, Reps K mg F vs ds → Reps K mg F ws es → Reps K mg F (vs ++ ws) (ds ++ es)
  | _, _, _, _, .nil, h => h
  | _, _, _, _, .cons h t, h' => .cons h (t.app h')
theorem Reps.set {v : V} {d : D} (h : Rep K mg F v d) : ∀ {vs : List V} {ds : List D} (i : Nat), Reps K mg F vs ds → Reps K mg F (vs.set i v) (ds.set i d)
  | _, _, _, .nil => .nil
  | _, _, 0, .cons _ t => .cons h t
  | _, _, i + 1, .cons q t => .cons q (t.set h i)
theorem Reps.take : ∀ {vs : List V} {ds : List D} (n : Nat), Reps K mg F vs ds → Reps K mg F (vs.take n) (ds.take n)
  | _, _, 0, _ => .nil
  | _, _, _ + 1, .nil => .nil
  | _, _, n + 1, .cons q t => .cons q (t.take n)
theorem Reps.drop : ∀ {vs : List V} {ds : List D} (n : Nat), Reps K mg F vs ds → Reps K mg F (vs.drop n) (ds.drop n)
  | _, _, 0, h => h
  | _, _, _ + 1, .nil => .nil
  | _, _, n + 1, .cons _ t => t.drop n
theorem Reps.rev : ∀ {vs : List V} {ds : List D}, Reps K mg F vs ds → Reps K mg F vs.reverse ds.reverse
  | _, _, .nil => .nil
  | _, _, .cons q t => by rw [List.reverse_cons, List.reverse_cons]; exact (Reps.rev t).app (.cons q .nil)
theorem Reps.ints : ∀ {vs : List V} {ns : List Int}, Reps K mg F vs (ns.map D.int) → vs = ns.map V.int
  | _, [], h => by cases h; rfl
  | _, n :: ns, h => by
    cases h with
    | cons h1 h2 => cases h1; rw [Reps.ints h2]; rfl
theorem reps_ints : ∀ (ns : List Int), Reps K mg F (ns.map V.int) (ns.map D.int)
  | [] => .nil
  | n :: ns => .cons (.int n) (reps_ints ns)
end

/-! ### as the library's data -/
mutual
def D.py : D → PyData
  | .non => .none
  | .bl b => .bool b
  | .int i => .int i
  | .str x => .str x
  | .lst ds => .list (pys ds)
  | .tup ds => .tuple (pys ds)
  | .frz ds => .list (pys ds)
  | .obj _ _ _ => .none
def pys : List D → List PyData
  | [] => []
  | d :: ds => d.py :: pys ds
end
def D.flat : D → Bool
  | .non | .bl _ | .int _ => true
  | .str x => PyData.strOk x
  | _ => false
/-- no objects within, at most n deep -/
def D.fin : Nat → D → Prop
  | 0, d => d.flat = true
  | n + 1, d => d.flat = true ∨ ∃ ds, (d = .lst ds ∨ d = .tup ds ∨ d = .frz ds) ∧ ∀ x ∈ ds, D.fin n x
theorem fin_flat {d : D} (h : d.flat = true) : ∀ n, d.fin n
  | 0 => h
  | _ + 1 => .inl h
theorem fin_int (i : Int) (n : Nat) : (D.int i).fin n := fin_flat rfl n
theorem fin_bl (b : Bool) (n : Nat) : (D.bl b).fin n := fin_flat rfl n
theorem fin_str {x : Str} (h : PyData.strOk x = true) (n : Nat) : (D.str x).fin n := fin_flat (d := .str x) h n
theorem fin_non (n : Nat) : D.non.fin n := fin_flat rfl n
theorem fin_lst {ds : List D} {n : Nat} (h : ∀ x ∈ ds, x.fin n) : (D.lst ds).fin (n + 1) := .inr ⟨ds, .inl rfl, h⟩
theorem fin_tup {ds : List D} {n : Nat} (h : ∀ x ∈ ds, x.fin n) : (D.tup ds).fin (n + 1) := .inr ⟨ds, .inr (.inl rfl), h⟩
theorem fin_frz {ds : List D} {n : Nat} (h : ∀ x ∈ ds, x.fin n) : (D.frz ds).fin (n + 1) := .inr ⟨ds, .inr (.inr rfl), h⟩
theorem flat_py {d : D} (h : d.flat = true) : d.py.canLay0 = true ∧ d.py.depth = 0 := by
  cases d <;> first | exact ⟨rfl, rfl⟩ | exact ⟨h, rfl⟩ | cases h
theorem pys_lay : ∀ {ds : List D} {n : Nat}, (∀ x ∈ ds, x.py.canLay0 = true ∧ x.py.depth ≤ n) → PyData.canLayAll0 (pys ds) = true ∧ PyData.depthAll (pys ds) ≤ n
  | [], _, _ => ⟨rfl, Nat.zero_le _⟩
  | d :: ds, n, h => by
    obtain ⟨h1, h2⟩ := h d (List.mem_cons_self)
    obtain ⟨h3, h4⟩ := pys_lay (ds := ds) (n := n) fun x hx => h x (List.mem_cons_of_mem _ hx)
    refine ⟨?_, ?_⟩
    · show (d.py.canLay0 && PyData.canLayAll0 (pys ds)) = true
      rw [h1, h3]; rfl
    · show max d.py.depth (PyData.depthAll (pys ds)) ≤ n
      omega
theorem fin_py : ∀ {n : Nat} {d : D}, d.fin n → d.py.canLay0 = true ∧ d.py.depth ≤ n
  | 0, d, h => by obtain ⟨a, b⟩ := flat_py (d := d) h; exact ⟨a, by omega⟩
  | n + 1, d, h => by
    rcases h with h | ⟨ds, e, h⟩
    · obtain ⟨a, b⟩ := flat_py h; exact ⟨a, by omega⟩
    · obtain ⟨a, b⟩ := pys_lay (ds := ds) (n := n) fun x hx => fin_py (h x hx)
      rcases e with rfl | rfl | rfl
      all_goals exact ⟨a, Nat.succ_le_succ b⟩
theorem fin_shaped {n : Nat} {d : D} (h : d.fin n) (hn : n ≤ 64) : SeqAt.shaped d.py = true := by
  obtain ⟨a, b⟩ := fin_py h
  unfold SeqAt.shaped
  rw [a, decide_eq_true (show d.py.depth ≤ 64 by omega)]
  rfl
def eqD (d e : D) : Bool := PyData.eqv d.py e.py
theorem eqD_refl {n : Nat} {d : D} (h : d.fin n) : eqD d d = true := SeqAt.eqv_refl d.py (fin_py h).1
section
variable {K : PySem.W.Frag} {mg : Str → Option Value} {F : Hp}
theorem fin_dps : ∀ {n : Nat}, (∀ {d : D} {v : V}, d.fin n → Rep K mg F v d → Dp K F v d.py) → ∀ {ds : List D} {vs : List V}, (∀ x ∈ ds, x.fin n) → Reps K mg F vs ds → DpAll K F vs (pys ds)
  | _, _, [], _, _, h => by cases h; exact .nil
  | n, f, d :: ds, _, hx, h => by
    cases h with
    | cons h1 h2 => exact .cons (f (hx d List.mem_cons_self) h1) (fin_dps f (fun x q => hx x (List.mem_cons_of_mem _ q)) h2)
theorem flat_dp {d : D} {v : V} (h : d.flat = true) (r : Rep K mg F v d) : Dp K F v d.py := by
  cases r with
  | non => exact .non
  | bl b => exact .bl b
  | int i => exact .int i
  | str x => exact .str x
  | lst _ _ => cases h
  | tup _ _ => cases h
  | frz _ _ => cases h
  | obj _ _ _ _ => cases h
theorem fin_dp : ∀ {n : Nat} {d : D} {v : V}, d.fin n → Rep K mg F v d → Dp K F v d.py
  | 0, d, v, h, r => flat_dp h r
  | n + 1, d, v, h, r => by
    rcases h with h | ⟨ds, e, h⟩
    · exact flat_dp h r
    · have g : ∀ {vs : List V}, Reps K mg F vs ds → DpAll K F vs (pys ds) := fun {vs} q => fin_dps (n := n) (fun hd hr => fin_dp hd hr) h q
      rcases e with rfl | rfl | rfl
      · cases r with
        | lst h1 h2 => exact .lst (SqL.of h1) (g h2)
      · cases r with
        | tup h1 h2 => exact .tup h1 (g h2)
      · cases r with
        | frz h1 h2 => exact .lst h1 (g h2)
end
end Dn

set_option Elab.async false
set_option linter.all false
set_option maxRecDepth 100000
set_option maxHeartbeats 4000000
/-! Dn, part 2: the state relation. -/
namespace Dn
open PySem PySem.Spec PyProof.Rows L2

/-- what stays through a def's run: the data known at its entry, the heap at its entry, the list handed in to be changed, lists under way -/
structure Cn where
  F0 : Hp
  B : Hp
  io : List Addr
  T : List (Addr × HO)

/-- a slot: nothing known, data that is not changed, an own list, a list handed in to be changed -/
inductive Sl where
  | no | sh (d : D) | ow (xs : List D) | io (xs : List D)
abbrev En := List Sl
/-- an expression's value: data, the own list in a slot, a new list -/
inductive Rv where
  | sh (d : D) | bo (i : Nat) | fr (xs : List D)

section
variable (K : PySem.W.Frag) (mg : Str → Option Value) (C : Cn) (F H : Hp)
def SlR (o : Option (Option V)) (s : Sl) (fp : List Addr) : Prop := match s with
  | .no => fp = []
  | .sh d => fp = [] ∧ ∃ v, o = some (some v) ∧ Rep K mg F v d
  | .ow xs => ∃ p vs, fp = [p] ∧ o = some (some (.ref p)) ∧ C.B p = none ∧ H p = some (.lst vs) ∧ Reps K mg F vs xs
  | .io xs => ∃ p vs, fp = [p] ∧ o = some (some (.ref p)) ∧ p ∈ C.io ∧ H p = some (.lst vs) ∧ Reps K mg F vs xs
structure SR (σ : L2.St) (env : En) (fp : Nat → List Addr) : Prop where
  f0 : Same C.F0 F
  fh : Same F H
  bh : ∀ a o, a ∉ C.io → C.B a = some o → H a = some o
  fn : ∀ a, F a ≠ none → C.F0 a ≠ none ∨ C.B a = none
  ln : σ.length = env.length
  sl : ∀ i s, env[i]? = some s → SlR K mg C F H (σ[i]?) s (fp i)
  sep : ∀ i j p, p ∈ fp i → p ∈ fp j → i = j
  out : ∀ i p, p ∈ fp i → F p = none ∧ H p ≠ none ∧ ∀ t ∈ C.T, t.1 ≠ p
  iof : ∀ p ∈ C.io, C.F0 p = none ∧ C.B p ≠ none ∧ H p ≠ none
  tm : ∀ t ∈ C.T, F t.1 = none ∧ C.B t.1 = none ∧ H t.1 = some t.2
def VR (σ : L2.St) (fp : Nat → List Addr) (v : V) : Rv → Prop
  | .sh d => Rep K mg F v d
  | .bo i => σ[i]? = some (some v)
  | .fr ds => ∃ p vs, v = .ref p ∧ F p = none ∧ C.B p = none ∧ H p = some (.lst vs) ∧ Reps K mg F vs ds ∧ (∀ i, p ∉ fp i) ∧ ∀ t ∈ C.T, t.1 ≠ p
end

def fpSet (fp : Nat → List Addr) (i : Nat) (l : List Addr) : Nat → List Addr := fun j => if j = i then l else fp j
theorem fpSet_same {fp : Nat → List Addr} {i : Nat} {l : List Addr} : fpSet fp i l i = l := by unfold fpSet; rw [if_pos rfl]
theorem fpSet_ne {fp : Nat → List Addr} {i j : Nat} {l : List Addr} (h : j ≠ i) : fpSet fp i l j = fp j := by unfold fpSet; rw [if_neg h]
theorem none_of_ne {H : Hp} {p : Addr} {o : HO} (h : H p = some o) : H p ≠ none := by rw [h]; exact fun e => by cases e
theorem some_of_ne {H : Hp} {p : Addr} (h : H p ≠ none) : ∃ o, H p = some o := by
  cases e : H p with
  | none => exact absurd e h
  | some o => exact ⟨o, rfl⟩
theorem ne_none_same {H H' : Hp} {p : Addr} (e : Same H H') (h : H p ≠ none) : H' p ≠ none := by
  obtain ⟨o, q⟩ := some_of_ne h
  exact none_of_ne (e p o q)

section
variable {K : PySem.W.Frag} {mg : Str → Option Value} {C : Cn} {F F' H H' : Hp} {σ : L2.St} {env : En} {fp : Nat → List Addr}

theorem SlR.mono {o : Option (Option V)} {s : Sl} {l : List Addr} (h : SlR K mg C F H o s l) (e : Same F F') (k : ∀ p ∈ l, H' p = H p) : SlR K mg C F' H' o s l := by
  cases s with
  | no => exact h
  | sh d => obtain ⟨a, v, b, c⟩ := h; exact ⟨a, v, b, c.up e⟩
  | ow xs => obtain ⟨p, vs, a, b, c, d, r⟩ := h; subst a; exact ⟨p, vs, rfl, b, c, (k p (by simp)).trans d, r.up e⟩
  | io xs => obtain ⟨p, vs, a, b, c, d, r⟩ := h; subst a; exact ⟨p, vs, rfl, b, c, (k p (by simp)).trans d, r.up e⟩
/-- new in H: new against all -/
theorem SR.fresh (S : SR K mg C F H σ env fp) {p : Addr} (h : H p = none) : F p = none ∧ C.B p = none ∧ p ∉ C.io ∧ (∀ i, p ∉ fp i) ∧ ∀ t ∈ C.T, t.1 ≠ p := by
  have hio : p ∉ C.io := fun q => (S.iof p q).2.2 h
  refine ⟨?_, ?_, hio, fun i q => (S.out i p q).2.1 h, fun t ht e => ?_⟩
  · cases e : F p with
    | none => rfl
    | some o => rw [S.fh p o e] at h; cases h
  · cases e : C.B p with
    | none => rfl
    | some o => rw [S.bh p o hio e] at h; cases h
  · have := (S.tm t ht).2.2
    rw [e, h] at this; cases this
/-- the heap grows (a call, a new object) -/
theorem SR.grow (S : SR K mg C F H σ env fp) (hh : Same H H') (ff : Same F F') (fh : Same F' H') (fn : ∀ a, F' a ≠ none → F a ≠ none ∨ H a = none) : SR K mg C F' H' σ env fp where
  f0 := S.f0.trans ff
  fh := fh
  bh := fun a o h1 h2 => hh a o (S.bh a o h1 h2)
  fn := fun a h => (fn a h).elim (fun q => S.fn a q) fun q => .inr (S.fresh q).2.1
  ln := S.ln
  sl := fun i s e => (S.sl i s e).mono ff fun p hp => by
    obtain ⟨o, q⟩ := some_of_ne (S.out i p hp).2.1
    rw [q]; exact hh p o q
  sep := S.sep
  out := fun i p hp => by
    obtain ⟨a, b, c⟩ := S.out i p hp
    refine ⟨?_, ne_none_same hh b, c⟩
    cases e : F' p with
    | none => rfl
    | some o => exact ((fn p (none_of_ne e)).elim (fun q => q a) fun q => b q).elim
  iof := fun p hp => ⟨(S.iof p hp).1, (S.iof p hp).2.1, ne_none_same hh (S.iof p hp).2.2⟩
  tm := fun t ht => by
    obtain ⟨a, b, c⟩ := S.tm t ht
    refine ⟨?_, b, hh _ _ c⟩
    cases e : F' t.1 with
    | none => rfl
    | some o =>
      rcases fn t.1 (none_of_ne e) with q | q
      · exact (q a).elim
      · rw [q] at c; cases c
theorem same_both {p : Addr} {o : HO} (e : Same F H) : Same (upd F p o) (upd H p o) := fun a u h => by
  by_cases hp : a = p
  · subst hp; rw [upd_same] at h ⊢; exact h
  · rw [upd_ne hp] at h ⊢; exact e a u h
/-- a new object, not changed any more -/
theorem SR.new (S : SR K mg C F H σ env fp) {p : Addr} (o : HO) (h : H p = none) : SR K mg C (upd F p o) (upd H p o) σ env fp :=
  S.grow (same_upd h) (same_upd (S.fresh h).1) (same_both S.fh) fun a q => by
    by_cases hp : a = p
    · subst hp; exact .inr h
    · rw [upd_ne hp] at q; exact .inl q
/-- a new object that nothing speaks of -/
theorem SR.more (S : SR K mg C F H σ env fp) {p : Addr} (o : HO) (h : H p = none) : SR K mg C F (upd H p o) σ env fp :=
  S.grow (same_upd h) (Same.refl F) (S.fh.trans (same_upd h)) fun a q => .inl q
/-- a new list as an expression's value -/
theorem SR.newL (S : SR K mg C F H σ env fp) {p : Addr} {vs : List V} {ds : List D} (h : H p = none) (r : Reps K mg F vs ds) : SR K mg C F (upd H p (.lst vs)) σ env fp ∧ VR K mg C F (upd H p (.lst vs)) σ fp (.ref p) (.fr ds) := by
  obtain ⟨a, b, c, d, e⟩ := S.fresh h
  exact ⟨S.more _ h, p, vs, rfl, a, b, upd_same, r, d, e⟩
/-- a list that nothing will change: from now on data -/
theorem SR.frz (S : SR K mg C F H σ env fp) {v : V} {ds : List D} (r : VR K mg C F H σ fp v (.fr ds)) : ∃ F', SR K mg C F' H σ env fp ∧ Same F F' ∧ Rep K mg F' v (.lst ds) := by
  obtain ⟨p, vs, rfl, a, b, c, q, d, e⟩ := r
  have sf : Same F (upd F p (.lst vs)) := same_upd a
  refine ⟨upd F p (.lst vs), ⟨S.f0.trans sf, fun x u hx => ?_, S.bh, fun x hx => ?_, S.ln, fun i s es => (S.sl i s es).mono sf fun _ _ => rfl, S.sep, fun i x hx => ?_, S.iof, fun t ht => ?_⟩, sf, .lst upd_same (q.up sf)⟩
  · by_cases hp : x = p
    · subst hp; rw [upd_same] at hx; rw [c]; exact hx
    · rw [upd_ne hp] at hx; exact S.fh x u hx
  · by_cases hp : x = p
    · subst hp; exact .inr b
    · rw [upd_ne hp] at hx; exact S.fn x hx
  · obtain ⟨o1, o2, o3⟩ := S.out i x hx
    have hp : x ≠ p := fun z => d i (z ▸ hx)
    exact ⟨by rw [upd_ne hp]; exact o1, o2, o3⟩
  · obtain ⟨o1, o2, o3⟩ := S.tm t ht
    exact ⟨by rw [upd_ne (e t ht)]; exact o1, o2, o3⟩
/-- an own slot's list becomes data -/
theorem SR.frzS (S : SR K mg C F H σ env fp) {i : Nat} {xs : List D} (h : env[i]? = some (.ow xs)) : ∃ F' v, σ[i]? = some (some v) ∧ SR K mg C F' H σ (env.set i (.sh (.lst xs))) (fpSet fp i []) ∧ Same F F' ∧ Rep K mg F' v (.lst xs) := by
  obtain ⟨p, vs, a, b, c, d, r⟩ := S.sl i _ h
  have hpi : p ∈ fp i := by rw [a]; simp
  obtain ⟨o1, o2, o3⟩ := S.out i p hpi
  have sf : Same F (upd F p (.lst vs)) := same_upd o1
  have hi : i < env.length := (List.getElem?_eq_some_iff.mp h).1
  refine ⟨upd F p (.lst vs), .ref p, b, ⟨S.f0.trans sf, fun x u hx => ?_, S.bh, fun x hx => ?_, by rw [List.length_set]; exact S.ln, fun j s es => ?_, fun j k x hj hk => ?_, fun j x hx => ?_, S.iof, fun t ht => ?_⟩, sf, .lst upd_same (r.up sf)⟩
  · by_cases hp : x = p
    · subst hp; rw [upd_same] at hx; rw [d]; exact hx
    · rw [upd_ne hp] at hx; exact S.fh x u hx
  · by_cases hp : x = p
    · subst hp; exact .inr c
    · rw [upd_ne hp] at hx; exact S.fn x hx
  · by_cases hj : j = i
    · subst hj
      rw [List.getElem?_set_self hi] at es
      cases es
      rw [fpSet_same]
      exact ⟨rfl, _, b, .lst upd_same (r.up sf)⟩
    · rw [List.getElem?_set_ne (Ne.symm hj)] at es
      rw [fpSet_ne hj]
      exact (S.sl j s es).mono sf fun _ _ => rfl
  · by_cases e1 : j = i
    · subst e1; rw [fpSet_same] at hj; cases hj
    · by_cases e2 : k = i
      · subst e2; rw [fpSet_same] at hk; cases hk
      · rw [fpSet_ne e1] at hj; rw [fpSet_ne e2] at hk; exact S.sep j k x hj hk
  · by_cases e1 : j = i
    · subst e1; rw [fpSet_same] at hx; cases hx
    · rw [fpSet_ne e1] at hx
      obtain ⟨q1, q2, q3⟩ := S.out j x hx
      have hp : x ≠ p := fun z => e1 (S.sep j i p (z ▸ hx) hpi)
      exact ⟨by rw [upd_ne hp]; exact q1, q2, q3⟩
  · obtain ⟨q1, q2, q3⟩ := S.tm t ht
    exact ⟨by rw [upd_ne (o3 t ht)]; exact q1, q2, q3⟩
/-- a slot gets data -/
theorem SR.setS (S : SR K mg C F H σ env fp) {i : Nat} {v : V} {d : D} (r : Rep K mg F v d) : SR K mg C F H (σ.set i (some v)) (env.set i (.sh d)) (fpSet fp i []) where
  f0 := S.f0
  fh := S.fh
  bh := S.bh
  fn := S.fn
  ln := by rw [List.length_set, List.length_set]; exact S.ln
  sl := fun j s es => by
    by_cases hj : j = i
    · subst hj
      have hi : j < env.length := by
        have := (List.getElem?_eq_some_iff.mp es).1
        rw [List.length_set] at this; exact this
      rw [List.getElem?_set_self hi] at es
      cases es
      rw [fpSet_same, List.getElem?_set_self (by rw [S.ln]; exact hi)]
      exact ⟨rfl, v, rfl, r⟩
    · rw [List.getElem?_set_ne (Ne.symm hj)] at es
      rw [fpSet_ne hj, List.getElem?_set_ne (Ne.symm hj)]
      exact S.sl j s es
  sep := fun j k x hj hk => by
    by_cases e1 : j = i
    · subst e1; rw [fpSet_same] at hj; cases hj
    · by_cases e2 : k = i
      · subst e2; rw [fpSet_same] at hk; cases hk
      · rw [fpSet_ne e1] at hj; rw [fpSet_ne e2] at hk; exact S.sep j k x hj hk
  out := fun j x hx => by
    by_cases e1 : j = i
    · subst e1; rw [fpSet_same] at hx; cases hx
    · rw [fpSet_ne e1] at hx; exact S.out j x hx
  iof := S.iof
  tm := S.tm
/-- a slot gets a new list as its own -/
theorem SR.setO (S : SR K mg C F H σ env fp) {i : Nat} {v : V} {ds : List D} (r : VR K mg C F H σ fp v (.fr ds)) : ∃ fp', SR K mg C F H (σ.set i (some v)) (env.set i (.ow ds)) fp' := by
  obtain ⟨p, vs, rfl, a, b, c, q, d, e⟩ := r
  refine ⟨fpSet fp i [p], S.f0, S.fh, S.bh, S.fn, by rw [List.length_set, List.length_set]; exact S.ln, fun j s es => ?_, fun j k x hj hk => ?_, fun j x hx => ?_, S.iof, S.tm⟩
  · by_cases hj : j = i
    · subst hj
      have hi : j < env.length := by
        have := (List.getElem?_eq_some_iff.mp es).1
        rw [List.length_set] at this; exact this
      rw [List.getElem?_set_self hi] at es
      cases es
      rw [fpSet_same, List.getElem?_set_self (by rw [S.ln]; exact hi)]
      exact ⟨p, vs, rfl, rfl, b, c, q⟩
    · rw [List.getElem?_set_ne (Ne.symm hj)] at es
      rw [fpSet_ne hj, List.getElem?_set_ne (Ne.symm hj)]
      exact S.sl j s es
  · by_cases e1 : j = i
    · subst e1
      by_cases e2 : k = j
      · exact e2.symm
      · rw [fpSet_same] at hj; rw [fpSet_ne e2] at hk
        have : x = p := by simpa using hj
        subst this
        exact absurd hk (d k)
    · by_cases e2 : k = i
      · subst e2
        rw [fpSet_same] at hk; rw [fpSet_ne e1] at hj
        have : x = p := by simpa using hk
        subst this
        exact absurd hj (d j)
      · rw [fpSet_ne e1] at hj; rw [fpSet_ne e2] at hk; exact S.sep j k x hj hk
  · by_cases e1 : j = i
    · subst e1
      rw [fpSet_same] at hx
      have : x = p := by simpa using hx
      subst this
      exact ⟨a, none_of_ne c, e⟩
    · rw [fpSet_ne e1] at hx; exact S.out j x hx
/-- what an own slot holds -/
def Sl.own : Sl → Option (List D)
  | .ow xs => some xs
  | .io xs => some xs
  | _ => none
def Sl.with (s : Sl) (ys : List D) : Sl := match s with
  | .ow _ => .ow ys
  | .io _ => .io ys
  | s => s
theorem SR.ownAt (S : SR K mg C F H σ env fp) {i : Nat} {s : Sl} {xs : List D} (h : env[i]? = some s) (ho : s.own = some xs) : ∃ p vs, fp i = [p] ∧ σ[i]? = some (some (.ref p)) ∧ H p = some (.lst vs) ∧ Reps K mg F vs xs := by
  have q := S.sl i s h
  cases s with
  | no => cases ho
  | sh d => cases ho
  | ow ys => cases ho; obtain ⟨p, vs, a, b, c, d, r⟩ := q; exact ⟨p, vs, a, b, d, r⟩
  | io ys => cases ho; obtain ⟨p, vs, a, b, c, d, r⟩ := q; exact ⟨p, vs, a, b, d, r⟩
/-- an own slot's list is changed -/
theorem SR.write (S : SR K mg C F H σ env fp) {i : Nat} {s : Sl} {xs ys : List D} {p : Addr} {ws : List V} (h : env[i]? = some s) (ho : s.own = some xs) (hp : σ[i]? = some (some (.ref p))) (r : Reps K mg F ws ys) :
    SR K mg C F (upd H p (.lst ws)) σ (env.set i (s.with ys)) fp := by
  obtain ⟨p', vs, a, b, c, d⟩ := S.ownAt h ho
  have e : p' = p := by rw [b] at hp; cases hp; rfl
  subst e
  have hpi : p' ∈ fp i := by rw [a]; simp
  obtain ⟨o1, o2, o3⟩ := S.out i p' hpi
  have hi : i < env.length := (List.getElem?_eq_some_iff.mp h).1
  refine ⟨S.f0, fun x u hx => ?_, fun x u h1 h2 => ?_, S.fn, by rw [List.length_set]; exact S.ln, fun j t es => ?_, S.sep, fun j x hx => ?_, fun x hx => ?_, fun t ht => ?_⟩
  · rw [upd_ne (ne_of_none hx o1)]; exact S.fh x u hx
  · have hx : x ≠ p' := by
      intro z; subst z
      have q := S.sl i s h
      cases s with
      | no => cases ho
      | sh d => cases ho
      | ow ys => obtain ⟨p2, _, a2, _, c2, _⟩ := q; rw [a] at a2; cases a2; rw [h2] at c2; cases c2
      | io ys => obtain ⟨p2, _, a2, _, c2, _⟩ := q; rw [a] at a2; cases a2; exact h1 c2
    rw [upd_ne hx]; exact S.bh x u h1 h2
  · by_cases hj : j = i
    · subst hj
      rw [List.getElem?_set_self hi] at es
      cases es
      have q := S.sl j s h
      cases s with
      | no => cases ho
      | sh d => cases ho
      | ow zs => obtain ⟨p2, vs2, a2, b2, c2, _⟩ := q; rw [a] at a2; cases a2; exact ⟨p', ws, a, b, c2, upd_same, r⟩
      | io zs => obtain ⟨p2, vs2, a2, b2, c2, _⟩ := q; rw [a] at a2; cases a2; exact ⟨p', ws, a, b, c2, upd_same, r⟩
    · rw [List.getElem?_set_ne (Ne.symm hj)] at es
      refine (S.sl j t es).mono (Same.refl F) fun x hx => ?_
      rw [upd_ne]
      exact fun z => hj (S.sep j i p' (z ▸ hx) hpi)
  · obtain ⟨q1, q2, q3⟩ := S.out j x hx
    refine ⟨q1, ?_, q3⟩
    by_cases hx' : x = p'
    · subst hx'; rw [upd_same]; exact fun z => by cases z
    · rw [upd_ne hx']; exact q2
  · obtain ⟨q1, q2, q3⟩ := S.iof x hx
    refine ⟨q1, q2, ?_⟩
    by_cases hx' : x = p'
    · subst hx'; rw [upd_same]; exact fun z => by cases z
    · rw [upd_ne hx']; exact q3
  · obtain ⟨q1, q2, q3⟩ := S.tm t ht
    exact ⟨q1, q2, by rw [upd_ne (o3 t ht)]; exact q3⟩
/-- a slot is forgotten -/
theorem SR.forget (S : SR K mg C F H σ env fp) (i : Nat) (o : Option V) : SR K mg C F H (σ.set i o) (env.set i .no) (fpSet fp i []) where
  f0 := S.f0
  fh := S.fh
  bh := S.bh
  fn := S.fn
  ln := by rw [List.length_set, List.length_set]; exact S.ln
  sl := fun j s es => by
    by_cases hj : j = i
    · subst hj
      have hi : j < env.length := by
        have := (List.getElem?_eq_some_iff.mp es).1
        rw [List.length_set] at this; exact this
      rw [List.getElem?_set_self hi] at es
      cases es
      rw [fpSet_same]
      rfl
    · rw [List.getElem?_set_ne (Ne.symm hj)] at es
      rw [fpSet_ne hj, List.getElem?_set_ne (Ne.symm hj)]
      exact S.sl j s es
  sep := fun j k x hj hk => by
    by_cases e1 : j = i
    · subst e1; rw [fpSet_same] at hj; cases hj
    · by_cases e2 : k = i
      · subst e2; rw [fpSet_same] at hk; cases hk
      · rw [fpSet_ne e1] at hj; rw [fpSet_ne e2] at hk; exact S.sep j k x hj hk
  out := fun j x hx => by
    by_cases e1 : j = i
    · subst e1; rw [fpSet_same] at hx; cases hx
    · rw [fpSet_ne e1] at hx; exact S.out j x hx
  iof := S.iof
  tm := S.tm
end
end Dn

set_option Elab.async false
set_option linter.all false
set_option maxRecDepth 100000
set_option maxHeartbeats 4000000
/-! Dn, part 3: denotations of expressions, tests, arguments; how they are read; their rules. -/
namespace Dn
open PySem PySem.Spec PyProof.Rows L2

structure DE where
  run : En → (Rv → En → Prop) → Prop
  mono : ∀ env (Q Q' : Rv → En → Prop), (∀ r e, Q r e → Q' r e) → run env Q → run env Q'
structure DT where
  run : En → (Bool → En → Prop) → Prop
  mono : ∀ env (Q Q' : Bool → En → Prop), (∀ r e, Q r e → Q' r e) → run env Q → run env Q'
structure DA where
  run : En → (List D → En → Prop) → Prop
  mono : ∀ env (Q Q' : List D → En → Prop), (∀ r e, Q r e → Q' r e) → run env Q → run env Q'

/-- a new list is kept as data -/
def holdR : Rv → Rv
  | .fr ds => .sh (.lst ds)
  | r => r
/-- what a value holds, as it stands -/
def look (env : En) : Rv → Option D
  | .sh d => some d
  | .fr ds => some (.lst ds)
  | .bo i => match env[i]? with
    | some (.ow xs) => some (.lst xs)
    | some (.io xs) => some (.lst xs)
    | _ => none
/-- a value becomes data: an own list is not its slot's own any more -/
def dat (env : En) (r : Rv) (k : D → En → Prop) : Prop := match r with
  | .sh d => k d env
  | .fr ds => k (.lst ds) env
  | .bo i => match env[i]? with
    | some (.ow xs) => k (.lst xs) (env.set i (.sh (.lst xs)))
    | _ => False
theorem dat_mono {env : En} {r : Rv} {k k' : D → En → Prop} (h : ∀ d e, k d e → k' d e) (q : dat env r k) : dat env r k' := by
  unfold dat at q ⊢
  split at q
  · exact h _ _ q
  · exact h _ _ q
  · split at q
    · exact h _ _ q
    · exact q.elim

/-- a value by its top in the heap, its items as data -/
def RT (K : PySem.W.Frag) (mg : Str → Option Value) (F H : Hp) (v : V) : D → Prop
  | .lst ds => ∃ a vs, v = .ref a ∧ H a = some (.lst vs) ∧ Reps K mg F vs ds
  | d => Rep K mg F v d
section
variable {K : PySem.W.Frag} {mg : Str → Option Value} {C : Cn} {F F' H H' : Hp} {σ : L2.St} {env : En} {fp fp' : Nat → List Addr} {v : V}
theorem RT.of {d : D} (h : Rep K mg F v d) (e : Same F H) : RT K mg F H v d := by
  cases h with
  | lst h1 h2 => exact ⟨_, _, rfl, e _ _ h1, h2⟩
  | non => exact .non
  | bl b => exact .bl b
  | int i => exact .int i
  | str x => exact .str x
  | tup h1 h2 => exact .tup h1 h2
  | frz h1 h2 => exact .frz h1 h2
  | obj h1 h2 h3 h4 => exact .obj h1 h2 h3 h4
theorem RT.rep {d : D} (h : RT K mg F H v d) (e : Same F H) : Rep K mg H v d := by
  cases d with
  | lst ds => obtain ⟨a, vs, rfl, h1, h2⟩ := h; exact .lst h1 (h2.up e)
  | non => exact Rep.up (F := F) h e
  | bl b => exact Rep.up (F := F) h e
  | int i => exact Rep.up (F := F) h e
  | str x => exact Rep.up (F := F) h e
  | tup ds => exact Rep.up (F := F) h e
  | frz ds => exact Rep.up (F := F) h e
  | obj c ks ds => exact Rep.up (F := F) h e
theorem look_rt (S : SR K mg C F H σ env fp) {r : Rv} {d : D} (h : VR K mg C F H σ fp v r) (l : look env r = some d) : RT K mg F H v d := by
  cases r with
  | sh e => cases l; exact RT.of h S.fh
  | fr ds => cases l; obtain ⟨p, vs, rfl, _, _, c, q, _⟩ := h; exact ⟨p, vs, rfl, c, q⟩
  | bo i =>
    unfold look at l
    cases es : env[i]? with
    | none => simp only [es] at l; cases l
    | some s =>
      have e1 : σ[i]? = some (some v) := h
      cases s with
      | no => simp only [es] at l; cases l
      | sh _ => simp only [es] at l; cases l
      | ow xs =>
        simp only [es] at l; cases l
        obtain ⟨p, vs, _, b, hp, r⟩ := S.ownAt es rfl
        rw [b] at e1; cases e1
        exact ⟨p, vs, rfl, hp, r⟩
      | io xs =>
        simp only [es] at l; cases l
        obtain ⟨p, vs, _, b, hp, r⟩ := S.ownAt es rfl
        rw [b] at e1; cases e1
        exact ⟨p, vs, rfl, hp, r⟩
/-- keep a value while others are reckoned -/
theorem hold_ok (S : SR K mg C F H σ env fp) {r : Rv} (h : VR K mg C F H σ fp v r) : ∃ F', SR K mg C F' H σ env fp ∧ Same F F' ∧ VR K mg C F' H σ fp v (holdR r) := by
  cases r with
  | sh d => exact ⟨F, S, Same.refl F, h⟩
  | bo i => exact ⟨F, S, Same.refl F, h⟩
  | fr ds => exact S.frz h
theorem hold_up {r : Rv} (h : VR K mg C F H σ fp v (holdR r)) (e : Same F F') : VR K mg C F' H' σ fp' v (holdR r) := by
  cases r with
  | sh d => exact Rep.up (F := F) h e
  | bo i => exact h
  | fr ds => exact Rep.up (F := F) h e
theorem dat_ok (S : SR K mg C F H σ env fp) {r : Rv} (h : VR K mg C F H σ fp v r) {k : D → En → Prop} (q : dat env r k) : ∃ F' env' fp' d, SR K mg C F' H σ env' fp' ∧ Same F F' ∧ Rep K mg F' v d ∧ k d env' := by
  cases r with
  | sh d => exact ⟨F, env, fp, d, S, Same.refl F, h, q⟩
  | fr ds => obtain ⟨F', a, b, c⟩ := S.frz h; exact ⟨F', env, fp, _, a, b, c, q⟩
  | bo i =>
    unfold dat at q
    cases es : env[i]? with
    | none => simp only [es] at q
    | some s =>
      cases s with
      | no => simp only [es] at q
      | sh _ => simp only [es] at q
      | io _ => simp only [es] at q
      | ow xs =>
        simp only [es] at q
        obtain ⟨F', w, a, b, c, e⟩ := S.frzS es
        have e1 : σ[i]? = some (some v) := h
        rw [a] at e1; cases e1
        exact ⟨F', _, _, _, b, c, e, q⟩
end

/-! ### readings -/
def EPost (X : Cx) (C : Cn) (F : Hp) (σ : L2.St) (Q : VK) (r : Rv) (env' : En) : Prop :=
  ∀ F' H' fp' v, SR X.K X.mg C F' H' σ env' fp' → Same F F' → VR X.K X.mg C F' H' σ fp' v r → Q v H'
def LE (X : Cx) (t : DE) : TE := fun σ H Q => ∃ C F env fp, SR X.K X.mg C F H σ env fp ∧ t.run env (EPost X C F σ Q)
def LT (X : Cx) (t : DT) : TT := fun σ H Q => ∃ C F env fp, SR X.K X.mg C F H σ env fp ∧ t.run env fun b env' => ∀ F' H' fp', SR X.K X.mg C F' H' σ env' fp' → Same F F' → Q b H'
def LA (X : Cx) (t : DA) : TA := fun σ H Q => ∃ C F env fp, SR X.K X.mg C F H σ env fp ∧ t.run env fun ds env' => ∀ F' H' fp' vs, SR X.K X.mg C F' H' σ env' fp' → Same F F' → Reps X.K X.mg F' vs ds → Q vs H'
theorem EPost.up {X : Cx} {C : Cn} {F F' : Hp} {σ : L2.St} {Q : VK} {r : Rv} {e : En} (h : EPost X C F σ Q r e) (s : Same F F') : EPost X C F' σ Q r e :=
  fun F2 H2 fp2 v S s2 q => h F2 H2 fp2 v S (s.trans s2) q

section
variable {X : Cx} {e a b : Expr} {es : List Expr} {ta tb : DE} {pos : Pos}
theorem pe_imp {t t' : TE} (h : PE X e t) (m : ∀ σ H Q, t' σ H Q → t σ H Q) : PE X e t' := ⟨fun pins s σ H Q I q => h.run pins s σ H Q I (m σ H Q q)⟩
theorem pt_imp {t t' : TT} (h : PT X e t) (m : ∀ σ H Q, t' σ H Q → t σ H Q) : PT X e t' := ⟨fun pins s σ H Q I q => h.run pins s σ H Q I (m σ H Q q)⟩
theorem pw_imp {t t' : TT} (h : PW X e t) (m : ∀ σ H Q, t' σ H Q → t σ H Q) : PW X e t' := ⟨fun w pins s σ H Q I q => h.run w pins s σ H Q I (m σ H Q q)⟩
theorem pa_imp {t t' : TA} (h : PA X es t) (m : ∀ σ H Q, t' σ H Q → t σ H Q) : PA X es t' := ⟨fun p pins s σ H Q I q => h.run p pins s σ H Q I (m σ H Q q)⟩

/-! ### names, constants -/
def eVar (i : Nat) : DE where
  run env Q := match env[i]? with
    | some (.sh d) => Q (.sh d) env
    | some (.ow _) => Q (.bo i) env
    | some (.io _) => Q (.bo i) env
    | _ => False
  mono env Q Q' h q := by
    split at q
    · exact h _ _ q
    · exact h _ _ q
    · exact h _ _ q
    · exact q.elim
def eC (d : D) : DE where
  run env Q := Q (.sh d) env
  mono _ _ _ h q := h _ _ q
theorem de_var {i : Nat} {x : Str} (h : PE X (.Name x pos) (tVar i)) : PE X (.Name x pos) (LE X (eVar i)) := by
  refine pe_imp h fun σ H Q q => ?_
  obtain ⟨C, F, env, fp, S, q⟩ := q
  have q : (match env[i]? with
    | some (.sh d) => EPost X C F σ Q (.sh d) env
    | some (.ow _) => EPost X C F σ Q (.bo i) env
    | some (.io _) => EPost X C F σ Q (.bo i) env
    | _ => False) := q
  cases es : env[i]? with
  | none => simp only [es] at q
  | some s =>
    cases s with
    | no => simp only [es] at q
    | sh d =>
      simp only [es] at q
      obtain ⟨_, v, b, c⟩ := S.sl i _ es
      exact ⟨v, b, q F H fp v S (Same.refl F) c⟩
    | ow xs =>
      simp only [es] at q
      obtain ⟨p, vs, _, b, _⟩ := S.ownAt es rfl
      exact ⟨.ref p, b, q F H fp _ S (Same.refl F) b⟩
    | io xs =>
      simp only [es] at q
      obtain ⟨p, vs, _, b, _⟩ := S.ownAt es rfl
      exact ⟨.ref p, b, q F H fp _ S (Same.refl F) b⟩
theorem de_c {v : V} {d : D} (h : PE X e (tC v)) (r : ∀ F, Rep X.K X.mg F v d) : PE X e (LE X (eC d)) := by
  refine pe_imp h fun σ H Q q => ?_
  obtain ⟨C, F, env, fp, S, q⟩ := q
  exact q F H fp v S (Same.refl F) (r F)
theorem de_int {i j} : PE X (.Constant (.int i) j pos) (LE X (eC (.int i))) := de_c pe_int fun _ => .int i
theorem de_bl {i j} : PE X (.Constant (.bool i) j pos) (LE X (eC (.bl i))) := de_c pe_bl fun _ => .bl i
theorem de_non {j} : PE X (.Constant .none j pos) (LE X (eC .non)) := de_c pe_non fun _ => .non
theorem de_str {x j} : PE X (.Constant (.str x) j pos) (LE X (eC (.str x))) := de_c pe_str fun _ => .str x

/-! ### two places -/
/-- an operation on data: what it asks, what it gives -/
abbrev RO := D → D → Prop × Rv
def OpS (X : Cx) (f : Value → Value → Sem Value) (R : RO) : Prop :=
  ∃ r : R2, OpR X f r ∧ ∀ C F H σ env fp v u d e (Q : VK), SR X.K X.mg C F H σ env fp → RT X.K X.mg F H v d → RT X.K X.mg F H u e → (R d e).1 → EPost X C F σ Q (R d e).2 env → r v u H Q
def eOp (R : RO) (a b : DE) : DE where
  run env Q := a.run env fun x e1 => b.run e1 fun y e2 => match look e2 (holdR x), look e2 y with
    | some d, some e => (R d e).1 ∧ Q (R d e).2 e2
    | _, _ => False
  mono env Q Q' h q := by
    refine a.mono _ _ _ (fun x e1 q => ?_) q
    refine b.mono _ _ _ (fun y e2 q => ?_) q
    split at q
    · exact ⟨q.1, h _ _ q.2⟩
    · exact q.elim
theorem op_down {R : RO} {r : R2} (hr : ∀ C F H σ env fp v u d e (Q : VK), SR X.K X.mg C F H σ env fp → RT X.K X.mg F H v d → RT X.K X.mg F H u e → (R d e).1 → EPost X C F σ Q (R d e).2 env → r v u H Q)
    {σ : L2.St} {H : Hp} {Q : VK} (q : LE X (eOp R ta tb) σ H Q) : tOp r (LE X ta) (LE X tb) σ H Q := by
  obtain ⟨C, F, env, fp, S, q⟩ := q
  refine ⟨C, F, env, fp, S, ta.mono _ _ _ (fun x e1 q F1 H1 fp1 v S1 s1 r1 => ?_) q⟩
  obtain ⟨F1', S1', s1', r1'⟩ := hold_ok S1 r1
  refine ⟨C, F1', e1, fp1, S1', tb.mono _ _ _ (fun y e2 q F2 H2 fp2 u S2 s2 r2 => ?_) q⟩
  split at q
  · rename_i d e hd he
    exact hr C F2 H2 σ e2 fp2 v u d e Q S2 (look_rt S2 (hold_up r1' s2) hd) (look_rt S2 r2 he) q.1 (EPost.up q.2 ((s1.trans s1').trans s2))
  · exact q.elim
theorem de_op {op : Operator} {R : RO} (ho : OpS X (binaryOp op) R) (ha : PE X a (LE X ta)) (hb : PE X b (LE X tb)) : PE X (.BinOp a op b pos) (LE X (eOp R ta tb)) := by
  obtain ⟨r, h1, h2⟩ := ho
  exact pe_imp (pe_op h1 ha hb) fun σ H Q q => op_down h2 q
theorem de_cmp {op : CmpOp} {R : RO} (ho : OpS X (compareOp op) R) (ha : PE X a (LE X ta)) (hb : PE X b (LE X tb)) (hm : behindInMarks op b = false) : PE X (.Compare a [op] [b] pos) (LE X (eOp R ta tb)) := by
  obtain ⟨r, h1, h2⟩ := ho
  exact pe_imp (pe_cmpR h1 ha hb hm) fun σ H Q q => op_down h2 q
/-- a comparison as a test -/
def tB (t : DE) : DT where
  run env Q := t.run env fun r e => match r with
    | .sh (.bl b) => Q b e
    | _ => False
  mono env Q Q' h q := by
    refine t.mono _ _ _ (fun r e q => ?_) q
    split at q
    · exact h _ _ q
    · exact q.elim
theorem lt_tB {t : DE} {σ : L2.St} {H : Hp} {Q : Bool → Hp → Prop} (q : LT X (tB t) σ H Q) : LE X t σ H (fun x H' => ∃ k, x = .bl k ∧ Q k H') := by
  obtain ⟨C, F, env, fp, S, q⟩ := q
  have q : t.run env (fun r e => match r with
    | .sh (.bl b) => ∀ F' H' fp', SR X.K X.mg C F' H' σ e fp' → Same F F' → Q b H'
    | _ => False) := q
  refine ⟨C, F, env, fp, S, t.mono _ _ _ (fun r e q F' H' fp' v S' s' rv => ?_) q⟩
  split at q
  · cases rv
    exact ⟨_, rfl, q F' H' fp' S' s'⟩
  · exact q.elim
theorem dt_cmp {op : CmpOp} {R : RO} (ho : OpS X (compareOp op) R) (ha : PE X a (LE X ta)) (hb : PE X b (LE X tb)) (hm : behindInMarks op b = false) : PT X (.Compare a [op] [b] pos) (LT X (tB (eOp R ta tb))) := by
  obtain ⟨r, h1, h2⟩ := ho
  exact pt_imp (pt_cmpR h1 ha hb hm) fun σ H Q q => op_down h2 (lt_tB q)
/-- any value's truth -/
def truD : D → Prop × Bool
  | .non => (True, false)
  | .bl b => (True, b)
  | .int i => (True, i != 0)
  | .str x => (x.length ≤ 1000000, x.length != 0)
  | .lst ds => (True, !ds.isEmpty)
  | .tup ds => (True, !ds.isEmpty)
  | .frz ds => (True, !ds.isEmpty)
  | .obj _ _ _ => (False, true)
def tTru (t : DE) : DT where
  run env Q := t.run env fun r e => match look e r with
    | some d => (truD d).1 ∧ Q (truD d).2 e
    | none => False
  mono env Q Q' h q := by
    refine t.mono _ _ _ (fun r e q => ?_) q
    split at q
    · exact ⟨q.1, h _ _ q.2⟩
    · exact q.elim
theorem isEmpty_len {α β : Type} {xs : List α} {ys : List β} (h : xs.length = ys.length) : xs.isEmpty = ys.isEmpty := by
  cases xs <;> cases ys <;> first | rfl | (simp at h)
theorem tru_rt {K : PySem.W.Frag} {mg : Str → Option Value} {F H : Hp} {v : V} {d : D} (e : Same F H) (h : RT K mg F H v d) (c : (truD d).1) : TruV K v H (truD d).2 := by
  cases d with
  | non => cases (show Rep K mg F v .non from h); rfl
  | bl b => cases (show Rep K mg F v (.bl b) from h); rfl
  | int i => cases (show Rep K mg F v (.int i) from h); rfl
  | str x =>
    cases (show Rep K mg F v (.str x) from h)
    refine ⟨Nat.le_trans c (by decide), ?_⟩
    show (x.length != 0) = ((x.length : Int) != 0)
    by_cases hx : x.length = 0
    · rw [hx]; rfl
    · have : (x.length : Int) ≠ 0 := by omega
      rw [bne_iff_ne.mpr hx, bne_iff_ne.mpr this]
  | lst ds =>
    obtain ⟨a, vs, rfl, h1, h2⟩ := h
    exact .inl ⟨vs, SqL.of h1, by show (!ds.isEmpty) = _; rw [isEmpty_len h2.len]⟩
  | tup ds =>
    cases (show Rep K mg F v (.tup ds) from h) with
    | tup h1 h2 => exact .inr (.inl ⟨_, same_t e h1, by show (!ds.isEmpty) = _; rw [isEmpty_len h2.len]⟩)
  | frz ds =>
    cases (show Rep K mg F v (.frz ds) from h) with
    | frz h1 h2 => exact .inl ⟨_, e.seq h1, by show (!ds.isEmpty) = _; rw [isEmpty_len h2.len]⟩
  | obj c ks ds => exact (show False from c).elim
theorem dt_tru (ha : PE X a (LE X ta)) (he : ∀ whole, isTrue a X.env whole = (do let v ← whole; standAt a.pos; holding [v] (truthy v)) := by intro _; rfl) : PT X a (LT X (tTru ta)) := by
  refine pt_imp (pt_truth ha he) fun σ H Q q => ?_
  obtain ⟨C, F, env, fp, S, q⟩ := q
  refine ⟨C, F, env, fp, S, ta.mono _ _ _ (fun r e q F' H' fp' v S' s' rv => ?_) q⟩
  split at q
  · rename_i d hd
    exact ⟨_, tru_rt S'.fh (look_rt S' rv hd) q.1, q.2 F' H' fp' S' s'⟩
  · exact q.elim

/-! ### and, or, not, if -/
variable {tA tB' : DT} {rest : List Expr}
def tAnd (t u : DT) : DT where
  run env Q := t.run env fun c e1 => if c = true then u.run e1 Q else Q false e1
  mono env Q Q' h q := by
    refine t.mono _ _ _ (fun c e q => ?_) q
    cases c
    · exact h _ _ q
    · exact u.mono _ _ _ h q
def tOr (t u : DT) : DT where
  run env Q := t.run env fun c e1 => if c = true then Q true e1 else u.run e1 Q
  mono env Q Q' h q := by
    refine t.mono _ _ _ (fun c e q => ?_) q
    cases c
    · exact u.mono _ _ _ h q
    · exact h _ _ q
def tNot (t : DT) : DT where
  run env Q := t.run env fun c e1 => Q (!c) e1
  mono env Q Q' h q := t.mono _ _ _ (fun c e q => h _ _ q) q
theorem dw_and1 (ha : PT X a (LT X tA)) : PW X (.BoolOp .And [a] pos) (LT X tA) := pw_and1 ha
theorem dw_or1 (ha : PT X a (LT X tA)) : PW X (.BoolOp .Or [a] pos) (LT X tA) := pw_or1 ha
theorem dw_and (ha : PT X a (LT X tA)) (hb : PW X (.BoolOp .And (b :: rest) pos) (LT X tB')) : PW X (.BoolOp .And (a :: b :: rest) pos) (LT X (tAnd tA tB')) := by
  refine pw_imp (pw_and ha hb) fun σ H Q q => ?_
  obtain ⟨C, F, env, fp, S, q⟩ := q
  refine ⟨C, F, env, fp, S, tA.mono _ _ _ (fun c e q F' H' fp' S' s' => ?_) q⟩
  cases c with
  | true => exact ⟨C, F', e, fp', S', tB'.mono _ _ _ (fun c e q F2 H2 fp2 S2 s2 => q F2 H2 fp2 S2 (s'.trans s2)) q⟩
  | false => exact q F' H' fp' S' s'
theorem dw_or (ha : PT X a (LT X tA)) (hb : PW X (.BoolOp .Or (b :: rest) pos) (LT X tB')) : PW X (.BoolOp .Or (a :: b :: rest) pos) (LT X (tOr tA tB')) := by
  refine pw_imp (pw_or ha hb) fun σ H Q q => ?_
  obtain ⟨C, F, env, fp, S, q⟩ := q
  refine ⟨C, F, env, fp, S, tA.mono _ _ _ (fun c e q F' H' fp' S' s' => ?_) q⟩
  cases c with
  | false => exact ⟨C, F', e, fp', S', tB'.mono _ _ _ (fun c e q F2 H2 fp2 S2 s2 => q F2 H2 fp2 S2 (s'.trans s2)) q⟩
  | true => exact q F' H' fp' S' s'
theorem dt_not (ha : PT X a (LT X tA)) : PT X (.UnaryOp .Not a pos) (LT X (tNot tA)) := by
  refine pt_imp (pt_not ha) fun σ H Q q => ?_
  obtain ⟨C, F, env, fp, S, q⟩ := q
  exact ⟨C, F, env, fp, S, tA.mono _ _ _ (fun c e q => q) q⟩
/-- and, or, not as values: bools -/
def eAnd (a b : DE) : DE where
  run env Q := a.run env fun r e1 => match r with
    | .sh (.bl c) => if c = true then b.run e1 Q else Q (.sh (.bl false)) e1
    | _ => False
  mono env Q Q' h q := by
    refine a.mono _ _ _ (fun r e q => ?_) q
    split at q
    · rename_i c
      cases c
      · exact h _ _ q
      · exact b.mono _ _ _ h q
    · exact q.elim
def eOr (a b : DE) : DE where
  run env Q := a.run env fun r e1 => match r with
    | .sh (.bl c) => if c = true then Q (.sh (.bl true)) e1 else b.run e1 Q
    | _ => False
  mono env Q Q' h q := by
    refine a.mono _ _ _ (fun r e q => ?_) q
    split at q
    · rename_i c
      cases c
      · exact b.mono _ _ _ h q
      · exact h _ _ q
    · exact q.elim
def eNot (a : DE) : DE where
  run env Q := a.run env fun r e1 => match r with
    | .sh (.bl c) => Q (.sh (.bl (!c))) e1
    | _ => False
  mono env Q Q' h q := by
    refine a.mono _ _ _ (fun r e q => ?_) q
    split at q
    · exact h _ _ q
    · exact q.elim
theorem de_one {op} (h : PE X a (LE X ta)) : PE X (.BoolOp op [a] pos) (LE X ta) := pe_one h
theorem de_and (ha : PE X a (LE X ta)) (hb : PE X (.BoolOp .And (b :: rest) pos) (LE X tb)) : PE X (.BoolOp .And (a :: b :: rest) pos) (LE X (eAnd ta tb)) := by
  refine pe_imp (pe_and ha hb) fun σ H Q q => ?_
  obtain ⟨C, F, env, fp, S, q⟩ := q
  refine ⟨C, F, env, fp, S, ta.mono _ _ _ (fun r e q F' H' fp' v S' s' rv => ?_) q⟩
  split at q
  · rename_i c
    cases rv
    refine ⟨c, rfl, ?_⟩
    cases c with
    | true => exact ⟨C, F', e, fp', S', tb.mono _ _ _ (fun r e q => q.up s') q⟩
    | false => exact q F' H' fp' _ S' s' (.bl false)
  · exact q.elim
theorem de_or (ha : PE X a (LE X ta)) (hb : PE X (.BoolOp .Or (b :: rest) pos) (LE X tb)) : PE X (.BoolOp .Or (a :: b :: rest) pos) (LE X (eOr ta tb)) := by
  refine pe_imp (pe_or ha hb) fun σ H Q q => ?_
  obtain ⟨C, F, env, fp, S, q⟩ := q
  refine ⟨C, F, env, fp, S, ta.mono _ _ _ (fun r e q F' H' fp' v S' s' rv => ?_) q⟩
  split at q
  · rename_i c
    cases rv
    refine ⟨c, rfl, ?_⟩
    cases c with
    | false => exact ⟨C, F', e, fp', S', tb.mono _ _ _ (fun r e q => q.up s') q⟩
    | true => exact q F' H' fp' _ S' s' (.bl true)
  · exact q.elim
theorem de_not (ha : PE X a (LE X ta)) : PE X (.UnaryOp .Not a pos) (LE X (eNot ta)) := by
  refine pe_imp (pe_not ha) fun σ H Q q => ?_
  obtain ⟨C, F, env, fp, S, q⟩ := q
  refine ⟨C, F, env, fp, S, ta.mono _ _ _ (fun r e q F' H' fp' v S' s' rv => ?_) q⟩
  split at q
  · rename_i c
    cases rv
    exact ⟨c, rfl, q F' H' fp' _ S' s' (.bl _)⟩
  · exact q.elim
def eIf (t : DT) (a b : DE) : DE where
  run env Q := t.run env fun c e1 => if c = true then a.run e1 Q else b.run e1 Q
  mono env Q Q' h q := by
    refine t.mono _ _ _ (fun c e q => ?_) q
    cases c
    · exact b.mono _ _ _ h q
    · exact a.mono _ _ _ h q
theorem de_if {c : Expr} (hc : PT X c (LT X tA)) (ha : PE X a (LE X ta)) (hb : PE X b (LE X tb)) : PE X (.IfExp c a b pos) (LE X (eIf tA ta tb)) := by
  refine pe_imp (pe_ifExp hc ha hb) fun σ H Q q => ?_
  obtain ⟨C, F, env, fp, S, q⟩ := q
  refine ⟨C, F, env, fp, S, tA.mono _ _ _ (fun c e q F' H' fp' S' s' => ?_) q⟩
  cases c with
  | true => exact ⟨C, F', e, fp', S', ta.mono _ _ _ (fun r e q => q.up s') q⟩
  | false => exact ⟨C, F', e, fp', S', tb.mono _ _ _ (fun r e q => q.up s') q⟩
/-- a < b < c -/
def eChain (R R' : RO) (a b c : DE) : DE where
  run env Q := a.run env fun x e1 => b.run e1 fun y e2 => match look e2 (holdR x), look e2 (holdR y) with
    | some d, some e => (R d e).1 ∧ match (R d e).2 with
      | .sh (.bl k) => if k = true then c.run e2 fun z e3 => match look e3 (holdR y), look e3 z with
          | some d, some e => (R' d e).1 ∧ Q (R' d e).2 e3
          | _, _ => False
        else Q (.sh (.bl false)) e2
      | _ => False
    | _, _ => False
  mono env Q Q' h q := by
    refine a.mono _ _ _ (fun x e1 q => ?_) q
    refine b.mono _ _ _ (fun y e2 q => ?_) q
    split at q
    · refine ⟨q.1, ?_⟩
      have q := q.2
      split at q
      · split at q
        · rename_i hk
          rw [if_pos hk]
          refine c.mono _ _ _ (fun z e3 q => ?_) q
          split at q
          · exact ⟨q.1, h _ _ q.2⟩
          · exact q.elim
        · rename_i hk
          rw [if_neg hk]
          exact h _ _ q
      · exact q.elim
    · exact q.elim
end
end Dn

set_option Elab.async false
set_option linter.all false
set_option maxRecDepth 100000
set_option maxHeartbeats 4000000
/-! Dn, part 4: arguments, displays, operations. -/
namespace Dn
open PySem PySem.Spec PyProof.Rows L2

theorem lim_line {n : Nat} (h : n ≤ 1000000) : n ≤ sizeLine := Nat.le_trans h (by decide)
theorem lim_lt {n : Nat} (h : n ≤ 1000000) : n < sizeLine := Nat.lt_of_le_of_lt h (by decide)

/-! ### arguments, displays -/
def aNil : DA where
  run env Q := Q [] env
  mono _ _ _ h q := h _ _ q
def aCons (e : DE) (r : DA) : DA where
  run env Q := e.run env fun x e1 => dat e1 x fun d e2 => r.run e2 fun ds e3 => Q (d :: ds) e3
  mono env Q Q' h q := by
    refine e.mono _ _ _ (fun x e1 q => ?_) q
    refine dat_mono (fun d e2 q => ?_) q
    exact r.mono _ _ _ (fun ds e3 q => h _ _ q) q
def eTup (a : DA) : DE where
  run env Q := a.run env fun ds e1 => ds.length ≤ 1000000 ∧ Q (.sh (.tup ds)) e1
  mono env Q Q' h q := a.mono _ _ _ (fun ds e1 q => ⟨q.1, h _ _ q.2⟩) q
def eLst (a : DA) : DE where
  run env Q := a.run env fun ds e1 => ds.length ≤ 1000000 ∧ Q (.fr ds) e1
  mono env Q Q' h q := a.mono _ _ _ (fun ds e1 q => ⟨q.1, h _ _ q.2⟩) q
section
variable {X : Cx} {e a b c : Expr} {es : List Expr} {te ta tb tc : DE} {tr : DA} {pos : Pos}
theorem da_nil : PA X [] (LA X aNil) := by
  refine pa_imp pa_nil fun σ H Q q => ?_
  obtain ⟨C, F, env, fp, S, q⟩ := q
  exact q F H fp [] S (Same.refl F) .nil
theorem da_cons (ha : PE X e (LE X te)) (hr : PA X es (LA X tr)) (hs : starEach (e :: es) X.env = (false, eval e X.env) :: starEach es X.env := by rfl) : PA X (e :: es) (LA X (aCons te tr)) := by
  refine pa_imp (pa_cons ha hr hs) fun σ H Q q => ?_
  obtain ⟨C, F, env, fp, S, q⟩ := q
  refine ⟨C, F, env, fp, S, te.mono _ _ _ (fun r e1 q F1 H1 fp1 v S1 s1 r1 => ?_) q⟩
  obtain ⟨F2, e2, fp2, d, S2, s2, r2, q⟩ := dat_ok S1 r1 q
  refine ⟨C, F2, e2, fp2, S2, tr.mono _ _ _ (fun ds e3 q F3 H3 fp3 vs S3 s3 r3 => ?_) q⟩
  exact q F3 H3 fp3 (v :: vs) S3 ((s1.trans s2).trans s3) (.cons (r2.up s3) r3)
theorem de_tup {x1} (h : PA X es (LA X tr)) : PE X (.Tuple es x1 pos) (LE X (eTup tr)) := by
  refine pe_imp (pe_tup h) fun σ H Q q => ?_
  obtain ⟨C, F, env, fp, S, q⟩ := q
  refine ⟨C, F, env, fp, S, tr.mono _ _ _ (fun ds e1 q F1 H1 fp1 vs S1 s1 r1 => ?_) q⟩
  refine ⟨lim_line (by rw [r1.len]; exact q.1), fun p hp => ?_⟩
  have sf : Same F1 (upd F1 p (.tup vs)) := same_upd (S1.fresh hp).1
  exact q.2 _ _ fp1 _ (S1.new (.tup vs) hp) (s1.trans sf) (.tup (SqT.of upd_same) (r1.up sf))
theorem de_lst (h : PA X es (LA X tr)) : PE X (.List es pos) (LE X (eLst tr)) := by
  refine pe_imp (pe_lst h) fun σ H Q q => ?_
  obtain ⟨C, F, env, fp, S, q⟩ := q
  refine ⟨C, F, env, fp, S, tr.mono _ _ _ (fun ds e1 q F1 H1 fp1 vs S1 s1 r1 => ?_) q⟩
  refine ⟨lim_line (by rw [r1.len]; exact q.1), fun p hp => ?_⟩
  obtain ⟨a, b⟩ := S1.newL hp r1
  exact q.2 _ _ fp1 _ a s1 b
end

/-! ### what the operations ask -/
section
variable {X : Cx}
/-- a rule over values serves an operation on data -/
def Serves (X : Cx) (r : R2) (R : RO) : Prop := ∀ C F H σ env fp v u d e (Q : VK), SR X.K X.mg C F H σ env fp → RT X.K X.mg F H v d → RT X.K X.mg F H u e → (R d e).1 → EPost X C F σ Q (R d e).2 env → r v u H Q
theorem serves {f : Value → Value → Sem Value} {r : R2} {R : RO} (h : OpR X f r) (s : Serves X r R) : OpS X f R := ⟨r, h, s⟩
section
variable {C : Cn} {F H : Hp} {σ : L2.St} {env : En} {fp : Nat → List Addr} {Q : VK}
theorem post_sc {v : V} {d : D} (S : SR X.K X.mg C F H σ env fp) (r : ∀ F, Rep X.K X.mg F v d) (q : EPost X C F σ Q (.sh d) env) : Q v H := q F H fp v S (Same.refl F) (r F)
theorem post_int {i : Int} (S : SR X.K X.mg C F H σ env fp) (q : EPost X C F σ Q (.sh (.int i)) env) : Q (.int i) H := post_sc S (fun _ => .int i) q
theorem post_bl {i : Bool} (S : SR X.K X.mg C F H σ env fp) (q : EPost X C F σ Q (.sh (.bl i)) env) : Q (.bl i) H := post_sc S (fun _ => .bl i) q
theorem post_str {i : Str} (S : SR X.K X.mg C F H σ env fp) (q : EPost X C F σ Q (.sh (.str i)) env) : Q (.str i) H := post_sc S (fun _ => .str i) q
theorem post_fr {vs : List V} {ds : List D} {p : Addr} (S : SR X.K X.mg C F H σ env fp) (r : Reps X.K X.mg F vs ds) (q : EPost X C F σ Q (.fr ds) env) (hp : H p = none) : Q (.ref p) (upd H p (.lst vs)) := by
  obtain ⟨a, b⟩ := S.newL hp r
  exact q F _ fp _ a (Same.refl F) b
theorem post_tup {vs : List V} {ds : List D} {p : Addr} (S : SR X.K X.mg C F H σ env fp) (r : Reps X.K X.mg F vs ds) (q : EPost X C F σ Q (.sh (.tup ds)) env) (hp : H p = none) : Q (.ref p) (upd H p (.tup vs)) := by
  have sf : Same F (upd F p (.tup vs)) := same_upd (S.fresh hp).1
  exact q _ _ fp _ (S.new (.tup vs) hp) sf (.tup (SqT.of upd_same) (r.up sf))
theorem rt_int {K : PySem.W.Frag} {mg : Str → Option Value} {v : V} {i : Int} (h : RT K mg F H v (.int i)) : v = .int i := by cases (show Rep K mg F v (.int i) from h); rfl
theorem rt_bl {K : PySem.W.Frag} {mg : Str → Option Value} {v : V} {i : Bool} (h : RT K mg F H v (.bl i)) : v = .bl i := by cases (show Rep K mg F v (.bl i) from h); rfl
theorem rt_str {K : PySem.W.Frag} {mg : Str → Option Value} {v : V} {i : Str} (h : RT K mg F H v (.str i)) : v = .str i := by cases (show Rep K mg F v (.str i) from h); rfl
theorem rt_non {K : PySem.W.Frag} {mg : Str → Option Value} {v : V} (h : RT K mg F H v .non) : v = .non := by cases (show Rep K mg F v .non from h); rfl
theorem rt_tup {K : PySem.W.Frag} {mg : Str → Option Value} {v : V} {ds : List D} (h : RT K mg F H v (.tup ds)) : ∃ a vs, v = .ref a ∧ SqT K F a vs ∧ Reps K mg F vs ds := by
  cases (show Rep K mg F v (.tup ds) from h) with
  | tup h1 h2 => exact ⟨_, _, rfl, h1, h2⟩
theorem rt_frz {K : PySem.W.Frag} {mg : Str → Option Value} {v : V} {ds : List D} (h : RT K mg F H v (.frz ds)) : ∃ a vs, v = .ref a ∧ SqL K F a vs ∧ Reps K mg F vs ds := by
  cases (show Rep K mg F v (.frz ds) from h) with
  | frz h1 h2 => exact ⟨_, _, rfl, h1, h2⟩
end

/-! ### arithmetic -/
def addR : RO
  | .int i, .int j => (True, .sh (.int (i + j)))
  | .lst xs, .lst ys => (xs.length + ys.length ≤ 1000000, .fr (xs ++ ys))
  | .tup xs, .tup ys => (xs ≠ [] ∧ xs.length + ys.length ≤ 1000000, .sh (.tup (xs ++ ys)))
  | .str x, .str y => (x.length + y.length ≤ 1000000, .sh (.str (x ++ y)))
  | .int i, .bl k => (True, .sh (.int (i + b2i k)))
  | _, _ => (False, .sh .non)
def subR : RO
  | .int i, .int j => (True, .sh (.int (i - j)))
  | _, _ => (False, .sh .non)
def mulR : RO
  | .int i, .int j => (IntMulOk i j, .sh (.int (i * j)))
  | .lst xs, .int k => (k ≤ 1000000 ∧ -1000000 ≤ k ∧ xs.length * k.toNat ≤ 1000000, .fr (List.replicate k.toNat xs).flatten)
  | _, _ => (False, .sh .non)
def DivOk (i j : Int) : Prop := j ≠ 0 ∧ Builtin.divisionGoesByPylong i j = false
def fdivR : RO
  | .int i, .int j => (DivOk i j, .sh (.int (i.fdiv j)))
  | _, _ => (False, .sh .non)
def modR : RO
  | .int i, .int j => (j ≠ 0, .sh (.int (i.fmod j)))
  | _, _ => (False, .sh .non)
def powR : RO
  | .int i, .int j => (0 ≤ j ∧ j ≤ 1000000 ∧ i.natAbs < 2 ^ 64, .sh (.int (i ^ j.toNat)))
  | _, _ => (False, .sh .non)
def shlR : RO
  | .int i, .int j => (0 ≤ j ∧ j ≤ 1000000 ∧ i.natAbs < 2 ^ 64, .sh (.int (i * 2 ^ j.toNat)))
  | _, _ => (False, .sh .non)
def shrR : RO
  | .int i, .int j => (0 ≤ j, .sh (.int (i / 2 ^ j.toNat)))
  | _, _ => (False, .sh .non)
def andR : RO
  | .int i, .int j => (True, .sh (.int (Builtin.bitAnd i j)))
  | _, _ => (False, .sh .non)
theorem reps_rep {K : PySem.W.Frag} {mg : Str → Option Value} {F : Hp} {vs : List V} {ds : List D} (h : Reps K mg F vs ds) : ∀ k : Nat, Reps K mg F (List.replicate k vs).flatten (List.replicate k ds).flatten
  | 0 => .nil
  | k + 1 => by
    rw [List.replicate_succ, List.replicate_succ, List.flatten_cons, List.flatten_cons]
    exact h.app (reps_rep h k)
theorem os_add : OpS X (binaryOp .Add) addR := by
  refine serves (op_add.or (op_cat.or (op_catT.or (op_add_str.or op_add_ib)))) fun C F H σ env fp v u d e Q S hv hu c q => ?_
  cases d <;> cases e <;> first | exact (show False from c).elim | skip
  · cases rt_int hv; cases rt_bl hu; exact .inr (.inr (.inr (.inr ⟨_, _, rfl, rfl, post_int S q⟩)))
  · cases rt_int hv; cases rt_int hu; exact .inl ⟨_, _, rfl, rfl, post_int S q⟩
  · cases rt_str hv; cases rt_str hu; exact .inr (.inr (.inr (.inl ⟨_, _, rfl, rfl, lim_line c, post_str S q⟩)))
  · obtain ⟨a, vs, rfl, h1, r1⟩ := hv
    obtain ⟨b, ws, rfl, h2, r2⟩ := hu
    have z : vs.length + ws.length ≤ 1000000 := by rw [r1.len, r2.len]; exact c
    exact .inr (.inl ⟨a, b, vs, ws, rfl, rfl, h1, h2, lim_line z, fun p hp => post_fr S (r1.app r2) q hp⟩)
  · obtain ⟨a, vs, rfl, h1, r1⟩ := rt_tup hv
    obtain ⟨b, ws, rfl, h2, r2⟩ := rt_tup hu
    obtain ⟨c1, c2⟩ := c
    have z : vs.length + ws.length ≤ 1000000 := by rw [r1.len, r2.len]; exact c2
    refine .inr (.inr (.inl ⟨a, b, vs, ws, rfl, rfl, same_t S.fh h1, same_t S.fh h2, fun e => ?_, lim_line z, fun e => ?_, fun e p hp => post_tup S (r1.app r2) q hp⟩))
    · subst e; cases r1; exact c1 rfl
    · subst e
      cases r2
      have q : EPost X C F σ Q (.sh (.tup (_ ++ []))) env := q
      rw [List.append_nil] at q
      exact q F H fp _ S (Same.refl F) (.tup h1 r1)
theorem os_sub : OpS X (binaryOp .Sub) subR := by
  refine serves op_sub fun C F H σ env fp v u d e Q S hv hu c q => ?_
  cases d <;> cases e <;> first | exact (show False from c).elim | skip
  cases rt_int hv; cases rt_int hu; exact ⟨_, _, rfl, rfl, post_int S q⟩
theorem op_mulD : OpR X (binaryOp .Mult) (rI IntMulOk fun i j => .int (i * j)) := opI fun _ _ _ _ _ _ _ hc q => mul_int q hc
theorem os_mul : OpS X (binaryOp .Mult) mulR := by
  refine serves (op_mulD.or op_rep) fun C F H σ env fp v u d e Q S hv hu c q => ?_
  cases d <;> cases e <;> first | exact (show False from c).elim | skip
  · cases rt_int hv; cases rt_int hu; exact .inl ⟨_, _, rfl, rfl, c, post_int S q⟩
  · obtain ⟨a, vs, rfl, h1, r1⟩ := hv
    cases rt_int hu
    obtain ⟨c1, c2, c3⟩ := c
    exact .inr ⟨a, _, vs, rfl, rfl, h1, by omega, by omega, lim_line (by rw [r1.len]; exact c3), fun p hp => post_fr S (reps_rep r1 _) q hp⟩
theorem op_fdivD : OpR X (binaryOp .FloorDiv) (rI DivOk fun i j => .int (i.fdiv j)) := opI fun _ _ _ _ _ _ _ hc q => floordiv_int hc.1 q (.inl hc.2)
theorem os_fdiv : OpS X (binaryOp .FloorDiv) fdivR := by
  refine serves op_fdivD fun C F H σ env fp v u d e Q S hv hu c q => ?_
  cases d <;> cases e <;> first | exact (show False from c).elim | skip
  cases rt_int hv; cases rt_int hu; exact ⟨_, _, rfl, rfl, c, post_int S q⟩
theorem os_mod : OpS X (binaryOp .Mod) modR := by
  refine serves op_modN fun C F H σ env fp v u d e Q S hv hu c q => ?_
  cases d <;> cases e <;> first | exact (show False from c).elim | skip
  cases rt_int hv; cases rt_int hu; exact ⟨_, _, rfl, rfl, c, post_int S q⟩
theorem os_pow : OpS X (binaryOp .Pow) powR := by
  refine serves op_pow fun C F H σ env fp v u d e Q S hv hu c q => ?_
  cases d <;> cases e <;> first | exact (show False from c).elim | skip
  cases rt_int hv; cases rt_int hu; exact ⟨_, _, rfl, rfl, c, post_int S q⟩
theorem os_shl : OpS X (binaryOp .LShift) shlR := by
  refine serves op_shl fun C F H σ env fp v u d e Q S hv hu c q => ?_
  cases d <;> cases e <;> first | exact (show False from c).elim | skip
  cases rt_int hv; cases rt_int hu; exact ⟨_, _, rfl, rfl, c, post_int S q⟩
theorem os_shr : OpS X (binaryOp .RShift) shrR := by
  refine serves op_shr fun C F H σ env fp v u d e Q S hv hu c q => ?_
  cases d <;> cases e <;> first | exact (show False from c).elim | skip
  cases rt_int hv; cases rt_int hu; exact ⟨_, _, rfl, rfl, c, post_int S q⟩
theorem os_and : OpS X (binaryOp .BitAnd) andR := by
  refine serves op_and fun C F H σ env fp v u d e Q S hv hu c q => ?_
  cases d <;> cases e <;> first | exact (show False from c).elim | skip
  cases rt_int hv; cases rt_int hu; exact ⟨_, _, rfl, rfl, post_int S q⟩
/-! in place: the same on ints and texts -/
theorem iop_mulD : OpR X (inplaceOp .Mult) (rI IntMulOk fun i j => .int (i * j)) := opI fun _ _ _ _ _ _ _ hc q => imul_int q hc
theorem iop_fdivD : OpR X (inplaceOp .FloorDiv) (rI DivOk fun i j => .int (i.fdiv j)) := opI fun _ _ _ _ _ _ _ hc q => ifloordiv_int hc.1 q (.inl hc.2)
def iaddR : RO
  | .int i, .int j => (True, .sh (.int (i + j)))
  | .str x, .str y => (x.length + y.length ≤ 1000000, .sh (.str (x ++ y)))
  | _, _ => (False, .sh .non)
def imulR : RO
  | .int i, .int j => (IntMulOk i j, .sh (.int (i * j)))
  | _, _ => (False, .sh .non)
theorem is_add : OpS X (inplaceOp .Add) iaddR := by
  refine serves (iop_add.or iop_add_str) fun C F H σ env fp v u d e Q S hv hu c q => ?_
  cases d <;> cases e <;> first | exact (show False from c).elim | skip
  · cases rt_int hv; cases rt_int hu; exact .inl ⟨_, _, rfl, rfl, post_int S q⟩
  · cases rt_str hv; cases rt_str hu; exact .inr ⟨_, _, rfl, rfl, lim_line c, post_str S q⟩
theorem is_sub : OpS X (inplaceOp .Sub) subR := by
  refine serves iop_sub fun C F H σ env fp v u d e Q S hv hu c q => ?_
  cases d <;> cases e <;> first | exact (show False from c).elim | skip
  cases rt_int hv; cases rt_int hu; exact ⟨_, _, rfl, rfl, post_int S q⟩
theorem is_mul : OpS X (inplaceOp .Mult) imulR := by
  refine serves iop_mulD fun C F H σ env fp v u d e Q S hv hu c q => ?_
  cases d <;> cases e <;> first | exact (show False from c).elim | skip
  cases rt_int hv; cases rt_int hu; exact ⟨_, _, rfl, rfl, c, post_int S q⟩
theorem is_fdiv : OpS X (inplaceOp .FloorDiv) fdivR := by
  refine serves iop_fdivD fun C F H σ env fp v u d e Q S hv hu c q => ?_
  cases d <;> cases e <;> first | exact (show False from c).elim | skip
  cases rt_int hv; cases rt_int hu; exact ⟨_, _, rfl, rfl, c, post_int S q⟩

/-! ### comparisons -/
def ltR : RO
  | .int i, .int j => (True, .sh (.bl (decide (i < j))))
  | .str x, .str y => (True, .sh (.bl (decide (x.cps.toList < y.cps.toList))))
  | _, _ => (False, .sh .non)
def leR : RO
  | .int i, .int j => (True, .sh (.bl (decide (i ≤ j))))
  | _, _ => (False, .sh .non)
def gtR : RO
  | .int i, .int j => (True, .sh (.bl (decide (j < i))))
  | _, _ => (False, .sh .non)
def geR : RO
  | .int i, .int j => (True, .sh (.bl (decide (j ≤ i))))
  | _, _ => (False, .sh .non)
def eqR : RO := fun d e => (d.fin 20 ∧ e.fin 20, .sh (.bl (eqD d e)))
def neR : RO := fun d e => (d.fin 20 ∧ e.fin 20, .sh (.bl (!eqD d e)))
def isNon : D → Bool
  | .non => true
  | _ => false
def isNR : RO
  | d, .non => (True, .sh (.bl (isNon d)))
  | _, _ => (False, .sh .non)
def notNR : RO
  | d, .non => (True, .sh (.bl (!isNon d)))
  | _, _ => (False, .sh .non)
theorem os_lt : OpS X (compareOp .Lt) ltR := by
  refine serves (op_lt.or op_lt_str) fun C F H σ env fp v u d e Q S hv hu c q => ?_
  cases d <;> cases e <;> first | exact (show False from c).elim | skip
  · cases rt_int hv; cases rt_int hu; exact .inl ⟨_, _, rfl, rfl, post_bl S q⟩
  · cases rt_str hv; cases rt_str hu; exact .inr ⟨_, _, rfl, rfl, post_bl S q⟩
theorem os_le : OpS X (compareOp .LtE) leR := by
  refine serves op_le fun C F H σ env fp v u d e Q S hv hu c q => ?_
  cases d <;> cases e <;> first | exact (show False from c).elim | skip
  cases rt_int hv; cases rt_int hu; exact ⟨_, _, rfl, rfl, post_bl S q⟩
theorem os_gt : OpS X (compareOp .Gt) gtR := by
  refine serves op_gt fun C F H σ env fp v u d e Q S hv hu c q => ?_
  cases d <;> cases e <;> first | exact (show False from c).elim | skip
  cases rt_int hv; cases rt_int hu; exact ⟨_, _, rfl, rfl, post_bl S q⟩
theorem os_ge : OpS X (compareOp .GtE) geR := by
  refine serves op_ge fun C F H σ env fp v u d e Q S hv hu c q => ?_
  cases d <;> cases e <;> first | exact (show False from c).elim | skip
  cases rt_int hv; cases rt_int hu; exact ⟨_, _, rfl, rfl, post_bl S q⟩
theorem os_eq (hu : X.A.units + 64 < cLine) : OpS X (compareOp .Eq) eqR :=
  serves (op_eqD hu) fun C F H σ env fp v u d e Q S hv hu c q => ⟨d.py, e.py, fin_dp c.1 (hv.rep S.fh), fin_dp c.2 (hu.rep S.fh), fin_shaped c.1 (by decide), fin_shaped c.2 (by decide), post_bl S q⟩
theorem os_ne (hu : X.A.units + 64 < cLine) : OpS X (compareOp .NotEq) neR :=
  serves (op_neD hu) fun C F H σ env fp v u d e Q S hv hu c q => ⟨d.py, e.py, fin_dp c.1 (hv.rep S.fh), fin_dp c.2 (hu.rep S.fh), fin_shaped c.1 (by decide), fin_shaped c.2 (by decide), post_bl S q⟩
theorem rt_isnon {K : PySem.W.Frag} {mg : Str → Option Value} {F H : Hp} {v : V} {d : D} (h : RT K mg F H v d) : decide (v = .non) = isNon d := by
  cases d with
  | non => rw [rt_non h]; rfl
  | bl b => rw [rt_bl h]; rfl
  | int b => rw [rt_int h]; rfl
  | str b => rw [rt_str h]; rfl
  | lst ds => obtain ⟨a, vs, rfl, _⟩ := h; rfl
  | tup ds => obtain ⟨a, vs, rfl, _⟩ := rt_tup h; rfl
  | frz ds => obtain ⟨a, vs, rfl, _⟩ := rt_frz h; rfl
  | obj c ks ds => cases (show Rep K mg F v (.obj c ks ds) from h); rfl
theorem os_isN : OpS X (compareOp .Is) isNR := by
  refine serves op_isN fun C F H σ env fp v u d e Q S hv hu c q => ?_
  cases e <;> first | (cases d <;> exact (show False from c).elim) | skip
  refine ⟨rt_non hu, ?_⟩
  rw [rt_isnon hv]
  exact post_bl S (show EPost X C F σ Q (.sh (.bl (isNon d))) env from by cases d <;> exact q)
theorem os_notN : OpS X (compareOp .IsNot) notNR := by
  refine serves op_notN fun C F H σ env fp v u d e Q S hv hu c q => ?_
  cases e <;> first | (cases d <;> exact (show False from c).elim) | skip
  refine ⟨rt_non hu, ?_⟩
  rw [rt_isnon hv]
  exact post_bl S (show EPost X C F σ Q (.sh (.bl (!isNon d))) env from by cases d <;> exact q)
/-! in a list or tuple of flat things -/
def inD (d : D) (ds : List D) : Bool := ds.any fun e => eqD e d
def inR : RO
  | d, .lst ds => (d.flat = true ∧ ds.all D.flat = true, .sh (.bl (inD d ds)))
  | d, .tup ds => (d.flat = true ∧ ds.all D.flat = true, .sh (.bl (inD d ds)))
  | d, .frz ds => (d.flat = true ∧ ds.all D.flat = true, .sh (.bl (inD d ds)))
  | _, _ => (False, .sh .non)
def ninR : RO
  | d, .lst ds => (d.flat = true ∧ ds.all D.flat = true, .sh (.bl (!inD d ds)))
  | d, .tup ds => (d.flat = true ∧ ds.all D.flat = true, .sh (.bl (!inD d ds)))
  | d, .frz ds => (d.flat = true ∧ ds.all D.flat = true, .sh (.bl (!inD d ds)))
  | _, _ => (False, .sh .non)
theorem flat_V {K : PySem.W.Frag} {mg : Str → Option Value} {F : Hp} {v : V} {d : D} (h : Rep K mg F v d) (f : d.flat = true) : flatV v = true := by
  cases h <;> first | rfl | cases f
theorem eqV_D {K : PySem.W.Frag} {mg : Str → Option Value} {F : Hp} {v u : V} {d e : D} (h : Rep K mg F v d) (f : d.flat = true) (h' : Rep K mg F u e) (f' : e.flat = true) : eqV v u = eqD d e := by
  cases h <;> cases h' <;> first | rfl | exact absurd f Bool.false_ne_true | exact absurd f' Bool.false_ne_true
theorem inV_D {K : PySem.W.Frag} {mg : Str → Option Value} {F : Hp} {v : V} {d : D} (h : Rep K mg F v d) (f : d.flat = true) : ∀ {vs : List V} {ds : List D}, Reps K mg F vs ds → ds.all D.flat = true → vs.all flatV = true ∧ inV v vs = inD d ds
  | _, _, .nil, _ => ⟨rfl, rfl⟩
  | w :: ws, e :: es, .cons h1 h2, g => by
    rw [List.all_cons, Bool.and_eq_true] at g
    obtain ⟨a, b⟩ := inV_D h f h2 g.2
    refine ⟨by rw [List.all_cons, flat_V h1 g.1, a]; rfl, ?_⟩
    have b : ws.any (fun y => eqV y v) = es.any (fun y => eqD y d) := b
    show (eqV w v || ws.any fun y => eqV y v) = (eqD e d || es.any fun y => eqD y d)
    rw [eqV_D h1 g.1 h f, b]
theorem flat_rt {K : PySem.W.Frag} {mg : Str → Option Value} {F H : Hp} {v : V} {d : D} (h : RT K mg F H v d) (f : d.flat = true) : Rep K mg F v d := by
  cases d <;> first | exact h | cases f
theorem in_serves (neg : Bool) {R : RO} (hR : ∀ d ds, R d (.lst ds) = (d.flat = true ∧ ds.all D.flat = true, .sh (.bl (if neg then !inD d ds else inD d ds))) ∧ R d (.tup ds) = (d.flat = true ∧ ds.all D.flat = true, .sh (.bl (if neg then !inD d ds else inD d ds))) ∧ R d (.frz ds) = (d.flat = true ∧ ds.all D.flat = true, .sh (.bl (if neg then !inD d ds else inD d ds))))
    (hN : ∀ d e, (∀ ds, e ≠ .lst ds) → (∀ ds, e ≠ .tup ds) → (∀ ds, e ≠ .frz ds) → ¬ (R d e).1) : Serves X (rIn X.K neg) R := by
  intro C F H σ env fp v u d e Q S hv hu c q
  have key : ∀ {a : Addr} {vs : List V} {ds : List D}, u = .ref a → (SqL X.K H a vs ∨ SqT X.K H a vs) → Reps X.K X.mg F vs ds → (d.flat = true ∧ ds.all D.flat = true) → EPost X C F σ Q (.sh (.bl (if neg then !inD d ds else inD d ds))) env → rIn X.K neg v u H Q := by
    intro a vs ds e1 h1 h2 h3 h4
    obtain ⟨z1, z2⟩ := inV_D (flat_rt hv h3.1) h3.1 h2 h3.2
    refine ⟨a, vs, e1, h1, flat_V (flat_rt hv h3.1) h3.1, z1, ?_⟩
    rw [z2]
    exact post_bl S h4
  cases e with
  | lst ds =>
    obtain ⟨a, vs, e1, h1, h2⟩ := hu
    rw [(hR d ds).1] at c q
    exact key e1 (.inl (SqL.of h1)) h2 c q
  | tup ds =>
    obtain ⟨a, vs, e1, h1, h2⟩ := rt_tup hu
    rw [(hR d ds).2.1] at c q
    exact key e1 (.inr (same_t S.fh h1)) h2 c q
  | frz ds =>
    obtain ⟨a, vs, e1, h1, h2⟩ := rt_frz hu
    rw [(hR d ds).2.2] at c q
    exact key e1 (.inl (S.fh.seq h1)) h2 c q
  | non => exact absurd c (hN d _ (fun _ z => by cases z) (fun _ z => by cases z) (fun _ z => by cases z))
  | bl b => exact absurd c (hN d _ (fun _ z => by cases z) (fun _ z => by cases z) (fun _ z => by cases z))
  | int b => exact absurd c (hN d _ (fun _ z => by cases z) (fun _ z => by cases z) (fun _ z => by cases z))
  | str b => exact absurd c (hN d _ (fun _ z => by cases z) (fun _ z => by cases z) (fun _ z => by cases z))
  | obj b c' d' => exact absurd c (hN d _ (fun _ z => by cases z) (fun _ z => by cases z) (fun _ z => by cases z))
theorem os_in : OpS X (compareOp .In) inR := serves op_in_seq (in_serves false (fun d ds => ⟨by cases d <;> rfl, by cases d <;> rfl, by cases d <;> rfl⟩) fun d e h1 h2 h3 c => by
  cases e <;> first | exact h1 _ rfl | exact h2 _ rfl | exact h3 _ rfl | (cases d <;> exact c))
theorem os_nin : OpS X (compareOp .NotIn) ninR := serves op_notIn_seq (in_serves true (fun d ds => ⟨by cases d <;> rfl, by cases d <;> rfl, by cases d <;> rfl⟩) fun d e h1 h2 h3 c => by
  cases e <;> first | exact h1 _ rfl | exact h2 _ rfl | exact h3 _ rfl | (cases d <;> exact c))

/-! ### one place -/
abbrev RO1 := D → Prop × Rv
def eOp1 (R : RO1) (a : DE) : DE where
  run env Q := a.run env fun x e1 => match look e1 x with
    | some d => (R d).1 ∧ Q (R d).2 e1
    | none => False
  mono env Q Q' h q := by
    refine a.mono _ _ _ (fun x e1 q => ?_) q
    split at q
    · exact ⟨q.1, h _ _ q.2⟩
    · exact q.elim
def Serves1 (X : Cx) (r : V → Hp → VK → Prop) (R : RO1) : Prop := ∀ C F H σ env fp v d (Q : VK), SR X.K X.mg C F H σ env fp → RT X.K X.mg F H v d → (R d).1 → EPost X C F σ Q (R d).2 env → r v H Q
theorem op1_down {R : RO1} {r : V → Hp → VK → Prop} {ta : DE} (hr : Serves1 X r R) {σ : L2.St} {H : Hp} {Q : VK} (q : LE X (eOp1 R ta) σ H Q) : LE X ta σ H fun v H1 => r v H1 Q := by
  obtain ⟨C, F, env, fp, S, q⟩ := q
  refine ⟨C, F, env, fp, S, ta.mono _ _ _ (fun x e1 q F1 H1 fp1 v S1 s1 r1 => ?_) q⟩
  split at q
  · rename_i d hd
    exact hr C F1 H1 σ e1 fp1 v d Q S1 (look_rt S1 r1 hd) q.1 (EPost.up q.2 s1)
  · exact q.elim
variable {a b c : Expr} {ta tb tc : DE} {pos : Pos}
def negR : RO1
  | .int i => (True, .sh (.int (-i)))
  | _ => (False, .sh .non)
theorem de_neg (ha : PE X a (LE X ta)) : PE X (.UnaryOp .USub a pos) (LE X (eOp1 negR ta)) :=
  pe_imp (pe_un un_neg ha) fun σ H Q q => op1_down (fun C F H σ env fp v d Q S hv c q => by
    cases d <;> first | exact (show False from c).elim | skip
    cases rt_int hv; exact ⟨_, rfl, post_int S q⟩) q

/-! ### chains -/
theorem chain_down {R R' : RO} {r r' : R2} (hr : Serves X r R) (hr' : Serves X r' R') {σ : L2.St} {H : Hp} {Q : VK} (q : LE X (eChain R R' ta tb tc) σ H Q) : tChain r r' (LE X ta) (LE X tb) (LE X tc) σ H Q := by
  obtain ⟨C, F, env, fp, S, q⟩ := q
  refine ⟨C, F, env, fp, S, ta.mono _ _ _ (fun x e1 q F1 H1 fp1 v S1 s1 r1 => ?_) q⟩
  obtain ⟨F1', S1', s1', r1'⟩ := hold_ok S1 r1
  refine ⟨C, F1', e1, fp1, S1', tb.mono _ _ _ (fun y e2 q F2 H2 fp2 u S2 s2 r2 => ?_) q⟩
  obtain ⟨F2', S2', s2', r2'⟩ := hold_ok S2 r2
  split at q
  · rename_i d e hd he
    obtain ⟨qc, q⟩ := q
    refine hr C F2' H2 σ e2 fp2 v u d e _ S2' (look_rt S2' (hold_up r1' (s2.trans s2')) hd) (look_rt S2' r2' he) qc ?_
    split at q
    · rename_i k hk
      rw [hk]
      intro F3 H3 fp3 w S3 s3 r3
      cases (show Rep X.K X.mg F3 w (.bl k) from r3)
      refine ⟨k, rfl, ?_⟩
      cases k with
      | false => exact q F3 H3 fp3 _ S3 ((((s1.trans s1').trans s2).trans s2').trans s3) (.bl false)
      | true =>
        refine ⟨C, F3, e2, fp3, S3, tc.mono _ _ _ (fun z e3 q F4 H4 fp4 w S4 s4 r4 => ?_) q⟩
        split at q
        · rename_i d' e' hd' he'
          exact hr' C F4 H4 σ e3 fp4 u w d' e' Q S4 (look_rt S4 (hold_up r2' (s3.trans s4)) hd') (look_rt S4 r4 he') q.1 (EPost.up q.2 (((((s1.trans s1').trans s2).trans s2').trans s3).trans s4))
        · exact q.elim
    · exact q.elim
  · exact q.elim
theorem de_chain {op op' : CmpOp} {R R' : RO} (ho : OpS X (compareOp op) R) (ho' : OpS X (compareOp op') R') (ha : PE X a (LE X ta)) (hb : PE X b (LE X tb)) (hc : PE X c (LE X tc))
    (hm : lastMarks [op, op'] [b, c] = false := by with_unfolding_all rfl) : PE X (.Compare a [op, op'] [b, c] pos) (LE X (eChain R R' ta tb tc)) := by
  obtain ⟨r, h1, h2⟩ := ho
  obtain ⟨r', h1', h2'⟩ := ho'
  exact pe_imp (pe_chain h1 h1' ha hb hc hm) fun σ H Q q => chain_down h2 h2' q
theorem dt_chain {op op' : CmpOp} {R R' : RO} (ho : OpS X (compareOp op) R) (ho' : OpS X (compareOp op') R') (ha : PE X a (LE X ta)) (hb : PE X b (LE X tb)) (hc : PE X c (LE X tc))
    (hm : lastMarks [op, op'] [b, c] = false := by with_unfolding_all rfl) : PT X (.Compare a [op, op'] [b, c] pos) (LT X (tB (eChain R R' ta tb tc))) := by
  obtain ⟨r, h1, h2⟩ := ho
  obtain ⟨r', h1', h2'⟩ := ho'
  exact pt_imp (pt_chain h1 h1' ha hb hc hm) fun σ H Q q => chain_down h2 h2' (lt_tB q)
end
end Dn

set_option Elab.async false
set_option linter.all false
set_option maxRecDepth 100000
set_option maxHeartbeats 4000000
/-! Dn, part 5: subscripts, slices, built-ins, calls of defs. -/
namespace Dn
open PySem PySem.Spec PyProof.Rows L2
section
variable {X : Cx} {a b c : Expr} {es : List Expr} {ta tb tc : DE} {tr : DA} {pos : Pos} {x : Str} {p : Pos}

/-! ### subscripts -/
def ixR : RO
  | .lst ds, .int i => ((atI ds i).isSome = true, .sh ((atI ds i).getD .non))
  | .tup ds, .int i => ((atI ds i).isSome = true, .sh ((atI ds i).getD .non))
  | .frz ds, .int i => ((atI ds i).isSome = true, .sh ((atI ds i).getD .non))
  | .str z, .int i => (z.length ≤ 1000000 ∧ (atI z.cps.toList i).isSome = true, .sh (.str ⟨#[(atI z.cps.toList i).getD 0]⟩))
  | _, _ => (False, .sh .non)
theorem reps_at {K : PySem.W.Frag} {mg : Str → Option Value} {F : Hp} {vs : List V} {ds : List D} {i : Int} (h : Reps K mg F vs ds) (c : (atI ds i).isSome = true) : ∃ v, atI vs i = some v ∧ Rep K mg F v ((atI ds i).getD .non) := by
  unfold atI at c ⊢
  rw [h.len]
  cases e : ixN ds.length i with
  | none => rw [e] at c; cases c
  | some j =>
    rw [e] at c
    have c : (ds[j]?).isSome = true := c
    cases ed : ds[j]? with
    | none => rw [ed] at c; cases c
    | some d =>
      obtain ⟨v, h1, h2⟩ := h.get ed
      exact ⟨v, h1, by show Rep K mg F v ((ds[j]?).getD .non); rw [ed]; exact h2⟩
theorem de_ix (ha : PE X a (LE X ta)) (hb : PE X b (LE X tb)) (hs : PlainIx b) : PE X (.Subscript a b pos) (LE X (eOp ixR ta tb)) :=
  pe_imp (pe_ix ix_seq ha hb hs) fun σ H Q q => op_down (fun C F H σ env fp v u d e Q S hv hu c q => by
    cases d <;> cases e <;> first | exact (show False from c).elim | skip
    · cases rt_str hv; cases rt_int hu
      obtain ⟨c1, c2⟩ := c
      obtain ⟨k, hk⟩ := Option.isSome_iff_exists.mp c2
      refine .inr (.inr ⟨_, _, k, rfl, rfl, lim_line c1, hk, ?_⟩)
      have q : EPost X C F σ Q (.sh (.str ⟨#[(atI _ _).getD 0]⟩)) env := q
      rw [hk] at q
      exact post_str S q
    · obtain ⟨p, vs, rfl, h1, h2⟩ := hv
      cases rt_int hu
      obtain ⟨w, e1, e2⟩ := reps_at h2 c
      exact .inl ⟨p, vs, _, w, rfl, rfl, SqL.of h1, e1, q F H fp w S (Same.refl F) e2⟩
    · obtain ⟨p, vs, rfl, h1, h2⟩ := rt_tup hv
      cases rt_int hu
      obtain ⟨w, e1, e2⟩ := reps_at h2 c
      exact .inr (.inl ⟨p, vs, _, w, rfl, rfl, same_t S.fh h1, e1, q F H fp w S (Same.refl F) e2⟩)
    · obtain ⟨p, vs, rfl, h1, h2⟩ := rt_frz hv
      cases rt_int hu
      obtain ⟨w, e1, e2⟩ := reps_at h2 c
      exact .inl ⟨p, vs, _, w, rfl, rfl, S.fh.seq h1, e1, q F H fp w S (Same.refl F) e2⟩) q

/-! ### slices -/
structure DO where
  run : En → (Option Int → En → Prop) → Prop
  mono : ∀ env (Q Q' : Option Int → En → Prop), (∀ r e, Q r e → Q' r e) → run env Q → run env Q'
def oNone : DO where
  run env Q := Q none env
  mono _ _ _ h q := h _ _ q
def oSome (t : DE) : DO where
  run env Q := t.run env fun r e => match r with
    | .sh (.int i) => Q (some i) e
    | _ => False
  mono env Q Q' h q := by
    refine t.mono _ _ _ (fun r e q => ?_) q
    split at q
    · exact h _ _ q
    · exact q.elim
def LO (X : Cx) (t : DO) : TO := fun σ H Q => ∃ C F env fp, SR X.K X.mg C F H σ env fp ∧ t.run env fun o env' => ∀ F' H' fp', SR X.K X.mg C F' H' σ env' fp' → Same F F' → Q o H'
theorem po_imp {o : Option Expr} {t t' : TO} (h : PO X o t) (m : ∀ σ H Q, t' σ H Q → t σ H Q) : PO X o t' := ⟨fun pins s σ H Q I q => h.run pins s σ H Q I (m σ H Q q)⟩
theorem do_none : PO X none (LO X oNone) := by
  refine po_imp po_none fun σ H Q q => ?_
  obtain ⟨C, F, env, fp, S, q⟩ := q
  exact q F H fp S (Same.refl F)
theorem do_some (ha : PE X a (LE X ta)) : PO X (some a) (LO X (oSome ta)) := by
  refine po_imp (po_some ha) fun σ H Q q => ?_
  obtain ⟨C, F, env, fp, S, q⟩ := q
  have q : ta.run env (fun r e => match r with
    | .sh (.int i) => ∀ F' H' fp', SR X.K X.mg C F' H' σ e fp' → Same F F' → Q (some i) H'
    | _ => False) := q
  refine ⟨C, F, env, fp, S, ta.mono _ _ _ (fun r e q F' H' fp' v S' s' rv => ?_) q⟩
  split at q
  · cases rv
    exact ⟨_, rfl, q F' H' fp' S' s'⟩
  · exact q.elim
def cutD {α : Type} (xs : List α) (lo hi : Option Int) : List α := (xs.drop (HT.sIx xs.length 0 lo)).take (HT.sIx xs.length xs.length hi - HT.sIx xs.length 0 lo)
def slR (d : D) (lo hi : Option Int) : Prop × Rv := match d with
  | .lst ds => (True, .fr (cutD ds lo hi))
  | .frz ds => (True, .fr (cutD ds lo hi))
  | .tup ds => (¬ (HT.sIx ds.length 0 lo = 0 ∧ HT.sIx ds.length ds.length hi = ds.length), .sh (.tup (cutD ds lo hi)))
  | .str z => (z.length ≤ 1000000, .sh (.str (cutS z lo hi)))
  | _ => (False, .sh .non)
theorem reps_cut {K : PySem.W.Frag} {mg : Str → Option Value} {F : Hp} {vs : List V} {ds : List D} (h : Reps K mg F vs ds) (lo hi : Option Int) : Reps K mg F (cutV vs lo hi) (cutD ds lo hi) := by
  unfold cutV cutD
  rw [h.len]
  exact (h.drop _).take _
def eSl (a : DE) (lo hi : DO) : DE where
  run env Q := a.run env fun x e1 => lo.run e1 fun l e2 => hi.run e2 fun u e3 => match look e3 (holdR x) with
    | some d => (slR d l u).1 ∧ Q (slR d l u).2 e3
    | none => False
  mono env Q Q' h q := by
    refine a.mono _ _ _ (fun x e1 q => ?_) q
    refine lo.mono _ _ _ (fun l e2 q => ?_) q
    refine hi.mono _ _ _ (fun u e3 q => ?_) q
    split at q
    · exact ⟨q.1, h _ _ q.2⟩
    · exact q.elim
theorem de_sl {lo hi : Option Expr} {tl th : DO} {p2 : Pos} (ha : PE X a (LE X ta)) (hl : PO X lo (LO X tl)) (hh : PO X hi (LO X th)) : PE X (.Subscript a (.Slice lo hi none p2) pos) (LE X (eSl ta tl th)) := by
  refine pe_imp (pe_slice (sl_list.or (sl_tup.or sl_str)) ha hl hh) fun σ H Q q => ?_
  obtain ⟨C, F, env, fp, S, q⟩ := q
  refine ⟨C, F, env, fp, S, ta.mono _ _ _ (fun r e1 q F1 H1 fp1 v S1 s1 r1 => ?_) q⟩
  obtain ⟨F1', S1', s1', r1'⟩ := hold_ok S1 r1
  refine ⟨C, F1', e1, fp1, S1', tl.mono _ _ _ (fun l e2 q F2 H2 fp2 S2 s2 => ?_) q⟩
  refine ⟨C, F2, e2, fp2, S2, th.mono _ _ _ (fun u e3 q F3 H3 fp3 S3 s3 => ?_) q⟩
  split at q
  · rename_i d hd
    have hv := look_rt S3 (hold_up r1' (s2.trans s3)) hd
    obtain ⟨c, q⟩ := q
    have q := EPost.up q (((s1.trans s1').trans s2).trans s3)
    cases d <;> first | exact (show False from c).elim | skip
    · cases rt_str hv
      exact .inr (.inr ⟨_, rfl, lim_line c, post_str S3 q⟩)
    · obtain ⟨p, vs, rfl, h1, h2⟩ := hv
      exact .inl ⟨p, vs, rfl, SqL.of h1, fun p' hp => post_fr S3 (reps_cut h2 l u) q hp⟩
    · obtain ⟨p, vs, rfl, h1, h2⟩ := rt_tup hv
      have c : ¬ (HT.sIx _ 0 l = 0 ∧ HT.sIx _ _ u = _) := c
      rw [← h2.len] at c
      exact .inr (.inl ⟨p, vs, rfl, same_t S3.fh h1, c, fun p' hp => post_tup S3 (reps_cut h2 l u) q hp⟩)
    · obtain ⟨p, vs, rfl, h1, h2⟩ := rt_frz hv
      exact .inl ⟨p, vs, rfl, S3.fh.seq h1, fun p' hp => post_fr S3 (reps_cut h2 l u) q hp⟩
  · exact q.elim

/-! ### built-ins -/
theorem de_b1 {id : String} {r : List V → Hp → VK → Prop} {R : RO1} (hc : CallR X (.builtin id) r) (hr : Serves1 X (fun v => r [v]) R) (hg : Gl X x) (hm : X.mg x = none) (hv : bootBuiltins x = some (.builtin id)) (ha : PE X a (LE X ta))
    (hn : x ≠ "__name__" := by decide) (hdb : (x == ("__debug__" : Str)) = false := by decide) (he : starEach [a] X.env = (false, eval a X.env) :: starEach [] X.env := by rfl) (hpl : (backTo pos (starEach [] X.env)).any (·.1) = false := by rfl) :
    PE X (.Call (.Name x p) [a] [] pos) (LE X (eOp1 R ta)) :=
  pe_imp (pe_callB hc hg hm hv (pa_cons ha pa_nil he) hn hdb he hpl) fun σ H Q q => op1_down hr q
theorem de_t1 {T : String} {r : List V → Hp → VK → Prop} {R : RO1} (hc : CallR X (.type T) r) (hr : Serves1 X (fun v => r [v]) R) (hg : Gl X x) (hm : X.mg x = none) (hv : bootBuiltins x = some (.type T)) (ha : PE X a (LE X ta))
    (hn : x ≠ "__name__" := by decide) (hdb : (x == ("__debug__" : Str)) = false := by decide) (he : starEach [a] X.env = (false, eval a X.env) :: starEach [] X.env := by rfl) (hpl : (backTo pos (starEach [] X.env)).any (·.1) = false := by rfl) :
    PE X (.Call (.Name x p) [a] [] pos) (LE X (eOp1 R ta)) :=
  pe_imp (pe_callTy hc hg hm hv (pa_cons ha pa_nil he) hn hdb he hpl) fun σ H Q q => op1_down hr q
theorem de_b2 {id : String} {r : List V → Hp → VK → Prop} {R : RO} (hc : CallR X (.builtin id) r) (hr : Serves X (fun v u => r [v, u]) R) (hg : Gl X x) (hm : X.mg x = none) (hv : bootBuiltins x = some (.builtin id)) (ha : PE X a (LE X ta)) (hb : PE X b (LE X tb))
    (hn : x ≠ "__name__" := by decide) (hdb : (x == ("__debug__" : Str)) = false := by decide) (he : starEach [a, b] X.env = (false, eval a X.env) :: starEach [b] X.env := by rfl) (he2 : starEach [b] X.env = (false, eval b X.env) :: starEach [] X.env := by rfl) (hpl : (backTo pos (starEach [b] X.env)).any (·.1) = false := by rfl) :
    PE X (.Call (.Name x p) [a, b] [] pos) (LE X (eOp R ta tb)) :=
  pe_imp (pe_callB hc hg hm hv (pa_cons ha (pa_cons hb pa_nil he2) he) hn hdb he hpl) fun σ H Q q => op_down hr q
def lenD : D → Nat
  | .lst ds => ds.length
  | .tup ds => ds.length
  | .frz ds => ds.length
  | .str x => x.length
  | _ => 0
def lenR : RO1
  | .lst ds => (True, .sh (.int ds.length))
  | .tup ds => (True, .sh (.int ds.length))
  | .frz ds => (True, .sh (.int ds.length))
  | .str z => (z.length ≤ 1000000, .sh (.int z.length))
  | _ => (False, .sh .non)
theorem sv_len : Serves1 X (fun v => (fun xs H Q => ∃ x n, xs = [x] ∧ LenV X.K x H n ∧ Q (.int n) H) [v]) lenR := fun C F H σ env fp v d Q S hv c q => by
  cases d <;> first | exact (show False from c).elim | skip
  · cases rt_str hv; exact ⟨_, _, rfl, ⟨lim_line c, rfl⟩, post_int S q⟩
  · obtain ⟨p, vs, rfl, h1, h2⟩ := hv
    exact ⟨_, _, rfl, .inl ⟨vs, SqL.of h1, h2.len.symm⟩, post_int S q⟩
  · obtain ⟨p, vs, rfl, h1, h2⟩ := rt_tup hv
    exact ⟨_, _, rfl, .inr ⟨vs, same_t S.fh h1, h2.len.symm⟩, post_int S q⟩
  · obtain ⟨p, vs, rfl, h1, h2⟩ := rt_frz hv
    exact ⟨_, _, rfl, .inl ⟨vs, S.fh.seq h1, h2.len.symm⟩, post_int S q⟩
theorem de_len (hg : Gl X "len") (hm : X.mg "len" = none) (ha : PE X a (LE X ta)) (he : starEach [a] X.env = (false, eval a X.env) :: starEach [] X.env := by rfl) (hpl : (backTo pos (starEach [] X.env)).any (·.1) = false := by rfl) :
    PE X (.Call (.Name "len" p) [a] [] pos) (LE X (eOp1 lenR ta)) := de_b1 call_len sv_len hg hm PySem.boot_len ha (by decide) (by decide) he hpl
def absR : RO1
  | .int i => (True, .sh (.int (if i < 0 then -i else i)))
  | _ => (False, .sh .non)
theorem de_abs (hg : Gl X "abs") (hm : X.mg "abs" = none) (ha : PE X a (LE X ta)) (he : starEach [a] X.env = (false, eval a X.env) :: starEach [] X.env := by rfl) (hpl : (backTo pos (starEach [] X.env)).any (·.1) = false := by rfl) :
    PE X (.Call (.Name "abs" p) [a] [] pos) (LE X (eOp1 absR ta)) := de_b1 call_abs (fun C F H σ env fp v d Q S hv c q => by
      cases d <;> first | exact (show False from c).elim | skip
      cases rt_int hv; exact ⟨_, rfl, post_int S q⟩) hg hm (by decide +kernel) ha (by decide) (by decide) he hpl
def intR : RO1
  | .int i => (True, .sh (.int i))
  | .bl k => (True, .sh (.int (if k then 1 else 0)))
  | _ => (False, .sh .non)
theorem de_tint (hg : Gl X "int") (hm : X.mg "int" = none) (ha : PE X a (LE X ta)) (he : starEach [a] X.env = (false, eval a X.env) :: starEach [] X.env := by rfl) (hpl : (backTo pos (starEach [] X.env)).any (·.1) = false := by rfl) :
    PE X (.Call (.Name "int" p) [a] [] pos) (LE X (eOp1 intR ta)) := de_t1 call_int1 (fun C F H σ env fp v d Q S hv c q => by
      cases d <;> first | exact (show False from c).elim | skip
      · cases rt_bl hv; exact .inr ⟨_, rfl, post_int S q⟩
      · cases rt_int hv; exact .inl ⟨_, rfl, post_int S q⟩) hg hm (by decide +kernel) ha (by decide) (by decide) he hpl
def boolR : RO1
  | .int i => (True, .sh (.bl (i != 0)))
  | .bl k => (True, .sh (.bl k))
  | _ => (False, .sh .non)
theorem de_tbool (hg : Gl X "bool") (hm : X.mg "bool" = none) (ha : PE X a (LE X ta)) (he : starEach [a] X.env = (false, eval a X.env) :: starEach [] X.env := by rfl) (hpl : (backTo pos (starEach [] X.env)).any (·.1) = false := by rfl) :
    PE X (.Call (.Name "bool" p) [a] [] pos) (LE X (eOp1 boolR ta)) := de_t1 call_bool1 (fun C F H σ env fp v d Q S hv c q => by
      cases d <;> first | exact (show False from c).elim | skip
      · cases rt_bl hv; exact .inr ⟨_, rfl, post_bl S q⟩
      · cases rt_int hv; exact .inl ⟨_, rfl, post_bl S q⟩) hg hm (by decide +kernel) ha (by decide) (by decide) he hpl
def strR : RO1
  | .int i => (i.natAbs.log2 < 1920, .sh (.str (toString i)))
  | _ => (False, .sh .non)
theorem de_tstr (hg : Gl X "str") (hm : X.mg "str" = none) (ha : PE X a (LE X ta)) (he : starEach [a] X.env = (false, eval a X.env) :: starEach [] X.env := by rfl) (hpl : (backTo pos (starEach [] X.env)).any (·.1) = false := by rfl) :
    PE X (.Call (.Name "str" p) [a] [] pos) (LE X (eOp1 strR ta)) := de_t1 call_str_int (fun C F H σ env fp v d Q S hv c q => by
      cases d <;> first | exact (show False from c).elim | skip
      cases rt_int hv; exact ⟨_, rfl, c, post_str S q⟩) hg hm (by decide +kernel) ha (by decide) (by decide) he hpl
def listR : RO1
  | .lst ds => (True, .fr ds)
  | .tup ds => (True, .fr ds)
  | .frz ds => (True, .fr ds)
  | _ => (False, .sh .non)
theorem de_tlist (hg : Gl X "list") (hm : X.mg "list" = none) (ha : PE X a (LE X ta)) (he : starEach [a] X.env = (false, eval a X.env) :: starEach [] X.env := by rfl) (hpl : (backTo pos (starEach [] X.env)).any (·.1) = false := by rfl) :
    PE X (.Call (.Name "list" p) [a] [] pos) (LE X (eOp1 listR ta)) := de_t1 call_list_of (fun C F H σ env fp v d Q S hv c q => by
      cases d <;> first | exact (show False from c).elim | skip
      · obtain ⟨p, vs, rfl, h1, h2⟩ := hv
        exact ⟨p, vs, rfl, .inl (SqL.of h1), fun l hl => post_fr S h2 q hl⟩
      · obtain ⟨p, vs, rfl, h1, h2⟩ := rt_tup hv
        exact ⟨p, vs, rfl, .inr (same_t S.fh h1), fun l hl => post_fr S h2 q hl⟩
      · obtain ⟨p, vs, rfl, h1, h2⟩ := rt_frz hv
        exact ⟨p, vs, rfl, .inl (S.fh.seq h1), fun l hl => post_fr S h2 q hl⟩) hg hm (by decide +kernel) ha (by decide) (by decide) he hpl
def tupleR : RO1
  | .lst ds => (True, .sh (.tup ds))
  | .tup ds => (True, .sh (.tup ds))
  | .frz ds => (True, .sh (.tup ds))
  | _ => (False, .sh .non)
theorem de_ttuple (hg : Gl X "tuple") (hm : X.mg "tuple" = none) (ha : PE X a (LE X ta)) (he : starEach [a] X.env = (false, eval a X.env) :: starEach [] X.env := by rfl) (hpl : (backTo pos (starEach [] X.env)).any (·.1) = false := by rfl) :
    PE X (.Call (.Name "tuple" p) [a] [] pos) (LE X (eOp1 tupleR ta)) := de_t1 call_tuple_of (fun C F H σ env fp v d Q S hv c q => by
      cases d <;> first | exact (show False from c).elim | skip
      · obtain ⟨p, vs, rfl, h1, h2⟩ := hv
        exact ⟨p, vs, rfl, .inl ⟨SqL.of h1, fun l hl => post_tup S h2 q hl⟩⟩
      · obtain ⟨p, vs, rfl, h1, h2⟩ := rt_tup hv
        exact ⟨p, vs, rfl, .inr ⟨same_t S.fh h1, q F H fp _ S (Same.refl F) (.tup h1 h2)⟩⟩
      · obtain ⟨p, vs, rfl, h1, h2⟩ := rt_frz hv
        exact ⟨p, vs, rfl, .inl ⟨S.fh.seq h1, fun l hl => post_tup S h2 q hl⟩⟩) hg hm (by decide +kernel) ha (by decide) (by decide) he hpl
def max2R : RO
  | .int i, .int j => (True, .sh (.int (if j > i then j else i)))
  | _, _ => (False, .sh .non)
def min2R : RO
  | .int i, .int j => (True, .sh (.int (if j < i then j else i)))
  | _, _ => (False, .sh .non)
theorem de_max2 (hc : X.calm = true) (hg : Gl X "max") (hm : X.mg "max" = none) (ha : PE X a (LE X ta)) (hb : PE X b (LE X tb)) (he : starEach [a, b] X.env = (false, eval a X.env) :: starEach [b] X.env := by rfl) (he2 : starEach [b] X.env = (false, eval b X.env) :: starEach [] X.env := by rfl) (hpl : (backTo pos (starEach [b] X.env)).any (·.1) = false := by rfl) :
    PE X (.Call (.Name "max" p) [a, b] [] pos) (LE X (eOp max2R ta tb)) := de_b2 (call_max2 hc) (fun C F H σ env fp v u d e Q S hv hu c q => by
      cases d <;> cases e <;> first | exact (show False from c).elim | skip
      cases rt_int hv; cases rt_int hu; exact ⟨_, _, rfl, post_int S q⟩) hg hm (by decide +kernel) ha hb (by decide) (by decide) he he2 hpl
theorem de_min2 (hc : X.calm = true) (hg : Gl X "min") (hm : X.mg "min" = none) (ha : PE X a (LE X ta)) (hb : PE X b (LE X tb)) (he : starEach [a, b] X.env = (false, eval a X.env) :: starEach [b] X.env := by rfl) (he2 : starEach [b] X.env = (false, eval b X.env) :: starEach [] X.env := by rfl) (hpl : (backTo pos (starEach [b] X.env)).any (·.1) = false := by rfl) :
    PE X (.Call (.Name "min" p) [a, b] [] pos) (LE X (eOp min2R ta tb)) := de_b2 (call_min2 hc) (fun C F H σ env fp v u d e Q S hv hu c q => by
      cases d <;> cases e <;> first | exact (show False from c).elim | skip
      cases rt_int hv; cases rt_int hu; exact ⟨_, _, rfl, post_int S q⟩) hg hm (by decide +kernel) ha hb (by decide) (by decide) he he2 hpl
/-! sum, max, min of a list of ints: asked of the ints -/
def intsOf : List D → Option (List Int)
  | [] => some []
  | .int i :: ds => (intsOf ds).map (i :: ·)
  | _ => none
theorem intsOf_map (ns : List Int) : intsOf (ns.map D.int) = some ns := by
  induction ns with
  | nil => rfl
  | cons n ns ih => show (intsOf (ns.map D.int)).map (n :: ·) = _; rw [ih]; rfl
theorem intsOf_eq : ∀ {ds : List D} {ns : List Int}, intsOf ds = some ns → ds = ns.map D.int
  | [], ns, h => by cases h; rfl
  | d :: ds, ns, h => by
    cases d <;> first | (cases h; done) | skip
    rename_i i
    have h : (intsOf ds).map (i :: ·) = some ns := h
    cases e : intsOf ds with
    | none => rw [e] at h; cases h
    | some ms =>
      rw [e] at h
      cases h
      rw [intsOf_eq e]; rfl
def sumR : RO1
  | .lst ds => match intsOf ds with
    | some ns => (True, .sh (.int ns.sum))
    | none => (False, .sh .non)
  | _ => (False, .sh .non)
theorem de_sum (hc : X.calm = true) (hg : Gl X "sum") (hm : X.mg "sum" = none) (ha : PE X a (LE X ta)) (he : starEach [a] X.env = (false, eval a X.env) :: starEach [] X.env := by rfl) (hpl : (backTo pos (starEach [] X.env)).any (·.1) = false := by rfl) :
    PE X (.Call (.Name "sum" p) [a] [] pos) (LE X (eOp1 sumR ta)) := de_b1 (cr_sum hc) (fun C F H σ env fp v d Q S hv c q => by
      cases d <;> first | exact (show False from c).elim | skip
      rename_i ds
      obtain ⟨p, vs, rfl, h1, h2⟩ := hv
      cases e : intsOf ds with
      | none => simp only [sumR, e] at c
      | some ns =>
        simp only [sumR, e] at q
        have e2 := intsOf_eq e
        subst e2
        cases h2.ints
        exact ⟨p, ns, rfl, SqL.of h1, post_int S q⟩) hg hm (by decide +kernel) ha (by decide) (by decide) he hpl
def maxD : List Int → Int
  | [] => 0
  | n :: ns => ns.foldl max n
def minD : List Int → Int
  | [] => 0
  | n :: ns => ns.foldl min n
theorem fold_max : ∀ (ns : List Int) (n : Int), n ≤ ns.foldl max n ∧ (∀ y ∈ ns, y ≤ ns.foldl max n) ∧ (ns.foldl max n = n ∨ ns.foldl max n ∈ ns)
  | [], n => ⟨Int.le_refl _, (fun _ h => by cases h), .inl rfl⟩
  | m :: ns, n => by
    obtain ⟨h1, h2, h3⟩ := fold_max ns (max n m)
    refine ⟨by show n ≤ ns.foldl max (max n m); omega, fun y hy => ?_, ?_⟩
    · show y ≤ ns.foldl max (max n m)
      rcases List.mem_cons.mp hy with rfl | hy
      · omega
      · exact h2 y hy
    · show ns.foldl max (max n m) = n ∨ ns.foldl max (max n m) ∈ m :: ns
      rcases h3 with h3 | h3
      · rw [h3]
        rcases Int.le_total n m with z | z
        · right; rw [show max n m = m by omega]; simp
        · left; omega
      · right; exact List.mem_cons_of_mem _ h3
theorem fold_min : ∀ (ns : List Int) (n : Int), ns.foldl min n ≤ n ∧ (∀ y ∈ ns, ns.foldl min n ≤ y) ∧ (ns.foldl min n = n ∨ ns.foldl min n ∈ ns)
  | [], n => ⟨Int.le_refl _, (fun _ h => by cases h), .inl rfl⟩
  | m :: ns, n => by
    obtain ⟨h1, h2, h3⟩ := fold_min ns (min n m)
    refine ⟨by show ns.foldl min (min n m) ≤ n; omega, fun y hy => ?_, ?_⟩
    · show ns.foldl min (min n m) ≤ y
      rcases List.mem_cons.mp hy with rfl | hy
      · omega
      · exact h2 y hy
    · show ns.foldl min (min n m) = n ∨ ns.foldl min (min n m) ∈ m :: ns
      rcases h3 with h3 | h3
      · rw [h3]
        rcases Int.le_total n m with z | z
        · left; omega
        · right; rw [show min n m = m by omega]; simp
      · right; exact List.mem_cons_of_mem _ h3
theorem maxD_ok {ns : List Int} (h : 0 < ns.length) : maxD ns ∈ ns ∧ ∀ y ∈ ns, y ≤ maxD ns := by
  cases ns with
  | nil => simp at h
  | cons n ns =>
    obtain ⟨h1, h2, h3⟩ := fold_max ns n
    refine ⟨?_, fun y hy => ?_⟩
    · rcases h3 with h3 | h3
      · show ns.foldl max n ∈ n :: ns; rw [h3]; simp
      · exact List.mem_cons_of_mem _ h3
    · rcases List.mem_cons.mp hy with rfl | hy
      · exact h1
      · exact h2 y hy
theorem minD_ok {ns : List Int} (h : 0 < ns.length) : minD ns ∈ ns ∧ ∀ y ∈ ns, minD ns ≤ y := by
  cases ns with
  | nil => simp at h
  | cons n ns =>
    obtain ⟨h1, h2, h3⟩ := fold_min ns n
    refine ⟨?_, fun y hy => ?_⟩
    · rcases h3 with h3 | h3
      · show ns.foldl min n ∈ n :: ns; rw [h3]; simp
      · exact List.mem_cons_of_mem _ h3
    · rcases List.mem_cons.mp hy with rfl | hy
      · exact h1
      · exact h2 y hy
def maxR : RO1
  | .lst ds => match intsOf ds with
    | some ns => (0 < ns.length, .sh (.int (maxD ns)))
    | none => (False, .sh .non)
  | _ => (False, .sh .non)
def minR : RO1
  | .lst ds => match intsOf ds with
    | some ns => (0 < ns.length, .sh (.int (minD ns)))
    | none => (False, .sh .non)
  | _ => (False, .sh .non)
theorem de_max (hc : X.calm = true) (hg : Gl X "max") (hm : X.mg "max" = none) (ha : PE X a (LE X ta)) (he : starEach [a] X.env = (false, eval a X.env) :: starEach [] X.env := by rfl) (hpl : (backTo pos (starEach [] X.env)).any (·.1) = false := by rfl) :
    PE X (.Call (.Name "max" p) [a] [] pos) (LE X (eOp1 maxR ta)) := de_b1 (cr_max hc) (fun C F H σ env fp v d Q S hv c q => by
      cases d <;> first | exact (show False from c).elim | skip
      rename_i ds
      obtain ⟨p, vs, rfl, h1, h2⟩ := hv
      cases e : intsOf ds with
      | none => simp only [maxR, e] at c
      | some ns =>
        simp only [maxR, e] at q c
        have e2 := intsOf_eq e
        subst e2
        cases h2.ints
        obtain ⟨z1, z2⟩ := maxD_ok c
        refine ⟨p, ns, rfl, SqL.of h1, c, fun m hm hy => ?_⟩
        have e3 : m = maxD ns := Int.le_antisymm (z2 m hm) (hy _ z1)
        subst e3
        exact post_int S q) hg hm (by decide +kernel) ha (by decide) (by decide) he hpl
theorem de_min (hc : X.calm = true) (hg : Gl X "min") (hm : X.mg "min" = none) (ha : PE X a (LE X ta)) (he : starEach [a] X.env = (false, eval a X.env) :: starEach [] X.env := by rfl) (hpl : (backTo pos (starEach [] X.env)).any (·.1) = false := by rfl) :
    PE X (.Call (.Name "min" p) [a] [] pos) (LE X (eOp1 minR ta)) := de_b1 (cr_min hc) (fun C F H σ env fp v d Q S hv c q => by
      cases d <;> first | exact (show False from c).elim | skip
      rename_i ds
      obtain ⟨p, vs, rfl, h1, h2⟩ := hv
      cases e : intsOf ds with
      | none => simp only [minR, e] at c
      | some ns =>
        simp only [minR, e] at q c
        have e2 := intsOf_eq e
        subst e2
        cases h2.ints
        obtain ⟨z1, z2⟩ := minD_ok c
        refine ⟨p, ns, rfl, SqL.of h1, c, fun m hm hy => ?_⟩
        have e3 : m = minD ns := Int.le_antisymm (hy _ z1) (z2 m hm)
        subst e3
        exact post_int S q) hg hm (by decide +kernel) ha (by decide) (by decide) he hpl

/-! ### isinstance with one written built-in class -/
inductive Ty5 where
  | int | bool | str | list | tuple
def Ty5.nm : Ty5 → String
  | .int => "int" | .bool => "bool" | .str => "str" | .list => "list" | .tuple => "tuple"
def isiR (T : Ty5) : RO1
  | .non => (True, .sh (.bl false))
  | .bl _ => (True, .sh (.bl (match T with | .bool => true | .int => true | _ => false)))
  | .int _ => (True, .sh (.bl (match T with | .int => true | _ => false)))
  | .str _ => (True, .sh (.bl (match T with | .str => true | _ => false)))
  | .lst _ => (True, .sh (.bl (match T with | .list => true | _ => false)))
  | .tup _ => (True, .sh (.bl (match T with | .tuple => true | _ => false)))
  | _ => (False, .sh .non)
theorem tyx_tup {K : PySem.W.Frag} {H : Hp} {a : Addr} {vs : List V} (h : SqT K H a vs) : TyX K H (.ref a) (.type "tuple") := by
  rcases h with (h | ⟨o, h⟩) | ⟨o, its, n, h1, h2, _⟩
  · exact .base (.tup h)
  · exact .fTuple h
  · exact .kTuple h1 h2
theorem de_isi (T : Ty5) {y : Str} {p2 : Pos} (hg : Gl X "isinstance") (hm : X.mg "isinstance" = none) (ha : PE X a (LE X ta)) (hy : PE X (.Name y p2) (tC (.ty T.nm)))
    (he : starEach [a, .Name y p2] X.env = (false, eval a X.env) :: starEach [.Name y p2] X.env := by rfl) (he2 : starEach [.Name y p2] X.env = (false, eval (.Name y p2) X.env) :: starEach [] X.env := by rfl) (hpl : (backTo pos (starEach [.Name y p2] X.env)).any (·.1) = false := by rfl) :
    PE X (.Call (.Name "isinstance" p) [a, .Name y p2] [] pos) (LE X (eOp1 (isiR T) ta)) := by
  refine pe_imp (pe_callB call_isi hg hm (by decide +kernel) (pa_cons ha (pa_cons hy pa_nil he2) he) (by decide) (by decide) he hpl) fun σ H Q q => ?_
  refine op1_down (r := fun v H Q => rIsi X.K [v, .ty T.nm] H Q) (fun C F H σ env fp v d Q S hv c q => ?_) q
  cases d <;> first | exact (show False from c).elim | skip
  · cases rt_non hv; refine ⟨_, _, _, _, false, rfl, .ty _, .base .non, ?_, post_bl S q⟩
    cases T <;> exact kit_ty (by decide +kernel)
  · cases rt_bl hv; refine ⟨_, _, _, _, _, rfl, .ty _, .base (.bl _), ?_, post_bl S q⟩
    cases T <;> exact kit_ty (by decide +kernel)
  · cases rt_int hv; refine ⟨_, _, _, _, _, rfl, .ty _, .base (.int _), ?_, post_bl S q⟩
    cases T <;> exact kit_ty (by decide +kernel)
  · cases rt_str hv; refine ⟨_, _, _, _, _, rfl, .ty _, .base (.str _), ?_, post_bl S q⟩
    cases T <;> exact kit_ty (by decide +kernel)
  · obtain ⟨p, vs, rfl, h1, h2⟩ := hv
    refine ⟨_, _, _, _, _, rfl, .ty _, .base (.lst h1), ?_, post_bl S q⟩
    cases T <;> exact kit_ty (by decide +kernel)
  · obtain ⟨p, vs, rfl, h1, h2⟩ := rt_tup hv
    refine ⟨_, _, _, _, _, rfl, .ty _, tyx_tup (same_t S.fh h1), ?_, post_bl S q⟩
    cases T <;> exact kit_ty (by decide +kernel)

/-! ### what defs promise -/
/-- a def over data: arguments, what it asks, what it gives -/
structure Spec where
  A : Type
  args : A → List D
  pre : A → Prop
  post : A → Rv → Prop
/-- a def whose first argument is a list that it changes -/
structure SpecS where
  A : Type
  st : A → List D
  args : A → List D
  pre : A → Prop
  post : A → Rv → List D → Prop
def Spec.run (s : Spec) (ds : List D) (Q : Rv → Prop) : Prop := ∃ x, ds = s.args x ∧ s.pre x ∧ ∀ r, s.post x r → Q r
def SpecS.run (s : SpecS) (xs ds : List D) (Q : Rv → List D → Prop) : Prop := ∃ x, xs = s.st x ∧ ds = s.args x ∧ s.pre x ∧ ∀ r ys, s.post x r ys → Q r ys
/-- a def's answer, in the heap H' behind it, H the heap ahead of it -/
def RvR (K : PySem.W.Frag) (mg : Str → Option Value) (F' H H' : Hp) (v : V) : Rv → Prop
  | .sh d => Rep K mg F' v d
  | .fr ds => ∃ p vs, v = .ref p ∧ H p = none ∧ F' p = none ∧ H' p = some (.lst vs) ∧ Reps K mg F' vs ds
  | .bo _ => False
def spOf (K : PySem.W.Frag) (mg : Str → Option Value) (s : Spec) : Sp := fun vs H Q _ => ∃ F ds, Same F H ∧ Reps K mg F vs ds ∧ s.run ds fun r =>
  ∀ F' H' v, Same H H' → Same F F' → Same F' H' → (∀ a, F' a ≠ none → F a ≠ none ∨ H a = none) → RvR K mg F' H H' v r → Q v H'
def spOfS (K : PySem.W.Frag) (mg : Str → Option Value) (s : SpecS) : Sp := fun vs H Q _ => ∃ F ds p us ws xs, vs = .ref p :: us ∧ Same F H ∧ F p = none ∧ H p = some (.lst ws) ∧ Reps K mg F ws xs ∧ Reps K mg F us ds ∧ s.run xs ds fun r ys =>
  ∀ F' H' v ws', (∀ a o, a ≠ p → H a = some o → H' a = some o) → Same F F' → Same F' H' → (∀ a, F' a ≠ none → F a ≠ none ∨ H a = none) → H' p = some (.lst ws') → Reps K mg F' ws' ys → RvR K mg F' H H' v r → Q v H'
def eCall (s : Spec) (as : DA) : DE where
  run env Q := as.run env fun ds e1 => s.run ds fun r => Q r e1
  mono env Q Q' h q := by
    refine as.mono _ _ _ (fun ds e1 q => ?_) q
    obtain ⟨x, h1, h2, h3⟩ := q
    exact ⟨x, h1, h2, fun r hr => h _ _ (h3 r hr)⟩
theorem call_down {s : Spec} {E : XK} {σ : L2.St} {H : Hp} {Q : VK} (q : LE X (eCall s tr) σ H Q) : tCall (spOf X.K X.mg s) [] E (LA X tr) σ H Q := by
  obtain ⟨C, F, env, fp, S, q⟩ := q
  refine ⟨C, F, env, fp, S, tr.mono _ _ _ (fun ds e1 q F1 H1 fp1 vs S1 s1 r1 => ?_) q⟩
  obtain ⟨y, h1, h2, h3⟩ := q
  refine ⟨F1, ds, S1.fh, by rw [List.append_nil]; exact r1, y, h1, h2, fun r hr F' H' v hh ff fh fn rv => ?_⟩
  have q := h3 r hr
  have S2 := S1.grow hh ff fh fn
  cases r with
  | sh d => exact q F' H' fp1 v S2 (s1.trans ff) rv
  | bo i => exact (show False from rv).elim
  | fr zs =>
    obtain ⟨p, ws, rfl, a, b, c, d⟩ := rv
    obtain ⟨f1, f2, f3, f4, f5⟩ := S1.fresh a
    exact q F' H' fp1 _ S2 (s1.trans ff) ⟨p, ws, rfl, b, f2, c, d, f4, f5⟩
theorem de_call {k : Nat} {f : Addr} {fd : FuncData} {ps : List Str} {s : Spec} (Fn : FnOk X.prog X.w X.K X.mg X.base CX0 k f fd ps (spOf X.K X.mg s)) (hr : Room k X.A) (hg : Gl X x) (hm : X.mg x = some (.ref f)) (hk : PySem.W.keepIn X.K (.ref f) = true) (hb : Binds X.K fd ps [])
    (ha : PA X (a :: es) (LA X tr)) (hdb : (x == ("__debug__" : Str)) = false := by decide) (he : starEach (a :: es) X.env = (false, eval a X.env) :: starEach es X.env := by rfl) (hpl : (backTo pos (starEach es X.env)).any (·.1) = false := by rfl) :
    PE X (.Call (.Name x p) (a :: es) [] pos) (LE X (eCall s tr)) :=
  pe_imp (pe_call Fn hr hg hm hk hb .nil pass0 ha hdb he hpl) fun σ H Q q => call_down q
/-- the list that a slot holds as its own -/
def ownAt (env : En) (i : Nat) : Option (List D) := match env[i]? with
  | some (.ow xs) => some xs
  | some (.io xs) => some xs
  | _ => none
def putAt (env : En) (i : Nat) (ys : List D) : En := match env[i]? with
  | some (.ow _) => env.set i (.ow ys)
  | some (.io _) => env.set i (.io ys)
  | _ => env
theorem ownAt_sl {env : En} {i : Nat} {xs : List D} (h : ownAt env i = some xs) : ∃ s, env[i]? = some s ∧ s.own = some xs ∧ ∀ ys, putAt env i ys = env.set i (s.with ys) := by
  unfold ownAt at h
  cases e : env[i]? with
  | none => simp only [e] at h; cases h
  | some s =>
    simp only [e] at h
    cases s with
    | no => cases h
    | sh d => cases h
    | ow zs => cases h; exact ⟨_, rfl, rfl, fun ys => by unfold putAt; rw [e]; rfl⟩
    | io zs => cases h; exact ⟨_, rfl, rfl, fun ys => by unfold putAt; rw [e]; rfl⟩
/-- f(state, ..), state in slot i -/
def eCallS (s : SpecS) (i : Nat) (as : DA) : DE where
  run env Q := (ownAt env i).isSome = true ∧ as.run env fun ds e1 => match ownAt e1 i with
    | some xs => s.run xs ds fun r ys => Q r (putAt e1 i ys)
    | none => False
  mono env Q Q' h q := by
    refine ⟨q.1, as.mono _ _ _ (fun ds e1 q => ?_) q.2⟩
    split at q
    · obtain ⟨x, h1, h2, h3, h4⟩ := q
      exact ⟨x, h1, h2, h3, fun r ys hr => h _ _ (h4 r ys hr)⟩
    · exact q.elim
theorem upd_self {H : Hp} {p : Addr} {o : HO} (h : H p = some o) : upd H p o = H := by
  funext a
  by_cases e : a = p
  · subst e; rw [upd_same, h]
  · rw [upd_ne e]
theorem SR.changed {K : PySem.W.Frag} {mg : Str → Option Value} {C : Cn} {F F' H H' : Hp} {σ : L2.St} {env : En} {fp : Nat → List Addr} (S : SR K mg C F H σ env fp) {i : Nat} {s : Sl} {xs ys : List D} {p : Addr} {ws : List V} (h : env[i]? = some s) (ho : s.own = some xs) (hp : σ[i]? = some (some (.ref p)))
    (hh : ∀ a o, a ≠ p → H a = some o → H' a = some o) (ff : Same F F') (fh : Same F' H') (fn : ∀ a, F' a ≠ none → F a ≠ none ∨ H a = none) (hp' : H' p = some (.lst ws)) (r : Reps K mg F' ws ys) : SR K mg C F' H' σ (env.set i (s.with ys)) fp := by
  obtain ⟨p', vs, a, b, c, d⟩ := S.ownAt h ho
  have e : p' = p := by rw [b] at hp; cases hp; rfl
  subst e
  obtain ⟨o1, o2, o3⟩ := S.out i p' (by rw [a]; simp)
  have f1 : F' p' = none := by
    cases e : F' p' with
    | none => rfl
    | some o => exact ((fn p' (none_of_ne e)).elim (fun q => q o1) fun q => o2 q).elim
  have S1 : SR K mg C F' (upd H' p' (.lst vs)) σ env fp := S.grow (fun x o hx => by
    by_cases e : x = p'
    · subst e; rw [upd_same, ← hx, c]
    · rw [upd_ne e]; exact hh x o e hx) ff (fun x o hx => by rw [upd_ne (ne_of_none hx f1)]; exact fh x o hx) fn
  have S2 := S1.write (ys := ys) h ho hp r
  rw [upd_upd, upd_self hp'] at S2
  exact S2
/-- the first argument: the list in slot i -/
theorem callS_down {s : SpecS} {i : Nat} {E : XK} {σ : L2.St} {H : Hp} {Q : VK} (q : LE X (eCallS s i tr) σ H Q) : tCall (spOfS X.K X.mg s) [] E (tCons (tVar i) (LA X tr)) σ H Q := by
  obtain ⟨C, F, env, fp, S, q0, q⟩ := q
  obtain ⟨xs0, h0⟩ := Option.isSome_iff_exists.mp q0
  obtain ⟨s0, a0, b0, _⟩ := ownAt_sl h0
  obtain ⟨p, ws0, z0, hp, c0, d0⟩ := S.ownAt a0 b0
  refine ⟨.ref p, hp, ?_⟩
  refine ⟨C, F, env, fp, S, tr.mono _ _ _ (fun ds e1 q F1 H1 fp1 vs S1 s1 r1 => ?_) q⟩
  split at q
  · rename_i xs hxs
    obtain ⟨sl, hsl, ho, hput⟩ := ownAt_sl hxs
    obtain ⟨y, h0, h1, h2, h3⟩ := q
    obtain ⟨p', ws, z, hp', c, d⟩ := S1.ownAt hsl ho
    rw [hp] at hp'
    cases hp'
    obtain ⟨o1, o2, o3⟩ := S1.out i p (by rw [z]; simp)
    refine ⟨F1, ds, p, vs, ws, xs, by rw [List.append_nil], S1.fh, o1, c, d, r1, y, h0, h1, h2, fun r ys hr F' H' v ws' hh ff fh fn hp2 rr rv => ?_⟩
    have q := h3 r ys hr
    have S2 := S1.changed hsl ho hp hh ff fh fn hp2 rr
    rw [← hput] at S2
    cases r with
    | sh d => exact q F' H' fp1 v S2 (s1.trans ff) rv
    | bo i => exact (show False from rv).elim
    | fr zs =>
      obtain ⟨p2, ws2, rfl, a2, b2, c2, d2⟩ := rv
      obtain ⟨f1, f2, f3, f4, f5⟩ := S1.fresh a2
      exact q F' H' fp1 _ S2 (s1.trans ff) ⟨p2, ws2, rfl, b2, f2, c2, d2, f4, f5⟩
  · exact q.elim
theorem de_callS {k i : Nat} {f : Addr} {fd : FuncData} {ps : List Str} {s : SpecS} (Fn : FnOk X.prog X.w X.K X.mg X.base CX0 k f fd ps (spOfS X.K X.mg s)) (hr : Room k X.A) (hg : Gl X x) (hm : X.mg x = some (.ref f)) (hk : PySem.W.keepIn X.K (.ref f) = true) (hb : Binds X.K fd ps [])
    (h0 : PE X a (tVar i)) (ha : PA X es (LA X tr)) (hdb : (x == ("__debug__" : Str)) = false := by decide) (he : starEach (a :: es) X.env = (false, eval a X.env) :: starEach es X.env := by rfl) (hpl : (backTo pos (starEach es X.env)).any (·.1) = false := by rfl) :
    PE X (.Call (.Name x p) (a :: es) [] pos) (LE X (eCallS s i tr)) :=
  pe_imp (pe_call Fn hr hg hm hk hb .nil pass0 (pa_cons h0 ha he) hdb he hpl) fun σ H Q q => callS_down q
end
end Dn

set_option Elab.async false
set_option linter.all false
set_option maxRecDepth 100000
set_option maxHeartbeats 4000000
/-! Dn, part 6: statements, targets, loops, comprehensions. -/
namespace Dn
open PySem PySem.Spec PyProof.Rows L2

structure DEnds where
  nx : En → Prop
  rt : Rv → En → Prop
  bk : En → Prop
  ct : En → Prop
structure DEnds.Le (D D' : DEnds) : Prop where
  nx : ∀ e, D.nx e → D'.nx e
  rt : ∀ r e, D.rt r e → D'.rt r e
  bk : ∀ e, D.bk e → D'.bk e
  ct : ∀ e, D.ct e → D'.ct e
theorem DEnds.Le.withNx {D D' : DEnds} (h : D.Le D') {a b : En → Prop} (k : ∀ e, a e → b e) : DEnds.Le { D with nx := a } { D' with nx := b } := ⟨k, h.rt, h.bk, h.ct⟩
structure DS where
  run : DEnds → En → Prop
  mono : ∀ (D D' : DEnds) env, D.Le D' → run D env → run D' env
theorem DS.to (t : DS) {D D' : DEnds} {env : En} (q : t.run D env) (h : D.Le D') : t.run D' env := t.mono D D' env h q
def upE (X : Cx) (C : Cn) (F : Hp) (D : Ends) : DEnds where
  nx env' := ∀ F' H' σ' fp', SR X.K X.mg C F' H' σ' env' fp' → Same F F' → D.nx σ' H'
  rt r env' := ∀ F' H' σ' fp' v, SR X.K X.mg C F' H' σ' env' fp' → Same F F' → VR X.K X.mg C F' H' σ' fp' v r → D.rt v H'
  bk env' := ∀ F' H' σ' fp', SR X.K X.mg C F' H' σ' env' fp' → Same F F' → D.bk σ' H'
  ct env' := ∀ F' H' σ' fp', SR X.K X.mg C F' H' σ' env' fp' → Same F F' → D.ct σ' H'
theorem upE_le {X : Cx} {C : Cn} {F F' : Hp} {D : Ends} (s : Same F F') : (upE X C F D).Le (upE X C F' D) :=
  ⟨fun _ h F2 H2 σ2 fp2 S2 s2 => h F2 H2 σ2 fp2 S2 (s.trans s2), fun _ _ h F2 H2 σ2 fp2 v S2 s2 r => h F2 H2 σ2 fp2 v S2 (s.trans s2) r,
   fun _ h F2 H2 σ2 fp2 S2 s2 => h F2 H2 σ2 fp2 S2 (s.trans s2), fun _ h F2 H2 σ2 fp2 S2 s2 => h F2 H2 σ2 fp2 S2 (s.trans s2)⟩
def LS (X : Cx) (t : DS) : TS := fun D σ H => ∃ C F env fp, SR X.K X.mg C F H σ env fp ∧ t.run (upE X C F D) env

section
variable {X : Cx} {st : Stmt} {rest sts : List Stmt} {e a b : Expr} {te ta tb : DE} {t u : DS} {pos : Pos}
theorem ps_imp {t t' : TS} (h : PS X st t) (m : ∀ D σ H, t' D σ H → t D σ H) : PS X st t' := ⟨fun pins s σ H D I q => h.run pins s σ H D I (m D σ H q)⟩
theorem pss_imp {t t' : TS} (h : PSs X sts t) (m : ∀ D σ H, t' D σ H → t D σ H) : PSs X sts t' := ⟨fun pins s σ H D I q => h.run pins s σ H D I (m D σ H q)⟩

/-! ### blocks, small statements -/
def sNext : DS where
  run D env := D.nx env
  mono _ _ _ h q := h.nx _ q
def sSeq (t u : DS) : DS where
  run D env := t.run { D with nx := fun e => u.run D e } env
  mono D D' env h q := t.mono _ _ _ (h.withNx fun e q => u.mono _ _ _ h q) q
theorem next_down {D : Ends} {σ : L2.St} {H : Hp} (q : LS X sNext D σ H) : tNext D σ H := by
  obtain ⟨C, F, env, fp, S, q⟩ := q
  exact q F H σ fp S (Same.refl F)
theorem dss_nil : PSs X [] (LS X sNext) := pss_imp pss_nil fun _ _ _ q => next_down q
theorem ds_pass : PS X (.Pass pos) (LS X sNext) := ps_imp ps_pass fun _ _ _ q => next_down q
theorem ds_doc {x j pos'} : PS X (.Expr (.Constant (.str x) j pos) pos') (LS X sNext) := ps_imp ps_doc fun _ _ _ q => next_down q
theorem dss_cons (h1 : PS X st (LS X t)) (h2 : PSs X rest (LS X u)) : PSs X (st :: rest) (LS X (sSeq t u)) := by
  refine pss_imp (pss_cons h1 h2) fun D σ H q => ?_
  obtain ⟨C, F, env, fp, S, q⟩ := q
  refine ⟨C, F, env, fp, S, t.to q ⟨fun e q F' H' σ' fp' S' s' => ?_, fun _ _ q => q, fun _ q => q, fun _ q => q⟩⟩
  exact ⟨C, F', e, fp', S', u.mono _ _ _ (upE_le s') q⟩
theorem dss_one (h1 : PS X st (LS X t)) : PSs X [st] (LS X t) := pss_one h1
def sBrk : DS where
  run D env := D.bk env
  mono _ _ _ h q := h.bk _ q
def sCont : DS where
  run D env := D.ct env
  mono _ _ _ h q := h.ct _ q
theorem ds_brk : PS X (.Break pos) (LS X sBrk) := by
  refine ps_imp ps_break fun D σ H q => ?_
  obtain ⟨C, F, env, fp, S, q⟩ := q
  exact q F H σ fp S (Same.refl F)
theorem ds_cont : PS X (.Continue pos) (LS X sCont) := by
  refine ps_imp ps_continue fun D σ H q => ?_
  obtain ⟨C, F, env, fp, S, q⟩ := q
  exact q F H σ fp S (Same.refl F)
/-- a place that is never come to -/
def sNever : DS where
  run _ _ := False
  mono _ _ _ _ q := q
theorem ds_never : PS X st (LS X sNever) := ps_imp ps_never fun D σ H q => by
  obtain ⟨C, F, env, fp, S, q⟩ := q
  exact q
def sExpr (e : DE) : DS where
  run D env := e.run env fun _ e1 => D.nx e1
  mono D D' env h q := e.mono _ _ _ (fun _ e1 q => h.nx _ q) q
theorem ds_expr (he : PE X e (LE X te)) (hs : swapsWith e none pos.line X.env = pure false := by rfl) : PS X (.Expr e pos) (LS X (sExpr te)) := by
  refine ps_imp (ps_expr he hs) fun D σ H q => ?_
  obtain ⟨C, F, env, fp, S, q⟩ := q
  exact ⟨C, F, env, fp, S, te.mono _ _ _ (fun r e1 q F' H' fp' v S' s' _ => q F' H' σ fp' S' s') q⟩
/-- an own slot's list is handed out -/
theorem SR.give {K : PySem.W.Frag} {mg : Str → Option Value} {C : Cn} {F H : Hp} {σ : L2.St} {env : En} {fp : Nat → List Addr} (S : SR K mg C F H σ env fp) {i : Nat} {xs : List D} (h : env[i]? = some (.ow xs)) :
    ∃ v, σ[i]? = some (some v) ∧ SR K mg C F H σ (env.set i .no) (fpSet fp i []) ∧ VR K mg C F H σ (fpSet fp i []) v (.fr xs) := by
  obtain ⟨p, vs, a, b, c, d, r⟩ := S.sl i _ h
  have hpi : p ∈ fp i := by rw [a]; simp
  obtain ⟨o1, o2, o3⟩ := S.out i p hpi
  have hi : i < env.length := (List.getElem?_eq_some_iff.mp h).1
  refine ⟨.ref p, b, ⟨S.f0, S.fh, S.bh, S.fn, by rw [List.length_set]; exact S.ln, fun j s es => ?_, fun j k x hj hk => ?_, fun j x hx => ?_, S.iof, S.tm⟩, p, vs, rfl, o1, c, d, r, fun j hj => ?_, o3⟩
  · by_cases hj : j = i
    · subst hj
      rw [List.getElem?_set_self hi] at es
      cases es
      rw [fpSet_same]
      rfl
    · rw [List.getElem?_set_ne (Ne.symm hj)] at es
      rw [fpSet_ne hj]
      exact S.sl j s es
  · by_cases e1 : j = i
    · subst e1; rw [fpSet_same] at hj; cases hj
    · by_cases e2 : k = i
      · subst e2; rw [fpSet_same] at hk; cases hk
      · rw [fpSet_ne e1] at hj; rw [fpSet_ne e2] at hk; exact S.sep j k x hj hk
  · by_cases e1 : j = i
    · subst e1; rw [fpSet_same] at hx; cases hx
    · rw [fpSet_ne e1] at hx; exact S.out j x hx
  · by_cases e1 : j = i
    · subst e1; rw [fpSet_same] at hj; cases hj
    · rw [fpSet_ne e1] at hj; exact e1 (S.sep j i p hj hpi)
def sRet (e : DE) : DS where
  run D env := e.run env fun r e1 => match r with
    | .sh d => D.rt (.sh d) e1
    | .fr ds => D.rt (.fr ds) e1
    | .bo i => match e1[i]? with
      | some (.ow xs) => D.rt (.fr xs) (e1.set i .no)
      | _ => False
  mono D D' env h q := by
    refine e.mono _ _ _ (fun r e1 q => ?_) q
    split at q
    · exact h.rt _ _ q
    · exact h.rt _ _ q
    · split at q
      · rename_i hx
        exact h.rt _ _ q
      · exact q.elim
theorem ds_ret (he : PE X e (LE X te)) : PS X (.Return (some e) pos) (LS X (sRet te)) := by
  refine ps_imp (ps_ret he) fun D σ H q => ?_
  obtain ⟨C, F, env, fp, S, q⟩ := q
  refine ⟨C, F, env, fp, S, te.mono _ _ _ (fun r e1 q F' H' fp' v S' s' rv => ?_) q⟩
  split at q
  · exact q F' H' σ fp' v S' s' rv
  · exact q F' H' σ fp' v S' s' rv
  · split at q
    · rename_i i _ xs hx
      obtain ⟨w, h1, h2, h3⟩ := S'.give hx
      have e0 : σ[i]? = some (some v) := rv
      rw [h1] at e0
      cases e0
      exact q F' H' σ _ v h2 s' h3
    · exact q.elim
def sRetN : DS where
  run D env := D.rt (.sh .non) env
  mono _ _ _ h q := h.rt _ _ q
theorem ds_retN : PS X (.Return none pos) (LS X sRetN) := by
  refine ps_imp ps_retN fun D σ H q => ?_
  obtain ⟨C, F, env, fp, S, q⟩ := q
  exact q F H σ fp .non S (Same.refl F) .non
def sIf (c : DT) (t u : DS) : DS where
  run D env := c.run env fun b e1 => if b = true then t.run D e1 else u.run D e1
  mono D D' env h q := by
    refine c.mono _ _ _ (fun b e1 q => ?_) q
    cases b
    · exact u.mono _ _ _ h q
    · exact t.mono _ _ _ h q
theorem ds_if {c : Expr} {xs ys : List Stmt} {tc : DT} (hc : PT X c (LT X tc)) (ha : PSs X xs (LS X t)) (hb : PSs X ys (LS X u)) : PS X (.If c xs ys pos) (LS X (sIf tc t u)) := by
  refine ps_imp (ps_if hc ha hb) fun D σ H q => ?_
  obtain ⟨C, F, env, fp, S, q⟩ := q
  refine ⟨C, F, env, fp, S, tc.mono _ _ _ (fun b e1 q F' H' fp' S' s' => ?_) q⟩
  cases b with
  | true => exact ⟨C, F', e1, fp', S', t.mono _ _ _ (upE_le s') q⟩
  | false => exact ⟨C, F', e1, fp', S', u.mono _ _ _ (upE_le s') q⟩

/-! ### targets -/
structure DG where
  run : D → En → (En → Prop) → Prop
  mono : ∀ d env (Q Q' : En → Prop), (∀ e, Q e → Q' e) → run d env Q → run d env Q'
structure DGs where
  run : List D → En → (En → Prop) → Prop
  mono : ∀ d env (Q Q' : En → Prop), (∀ e, Q e → Q' e) → run d env Q → run d env Q'
def LG (X : Cx) (t : DG) : TG := fun v σ H Q => ∃ C F env fp d, SR X.K X.mg C F H σ env fp ∧ Rep X.K X.mg F v d ∧ t.run d env fun env' => ∀ F' H' σ' fp', SR X.K X.mg C F' H' σ' env' fp' → Same F F' → Q σ' H'
def LGs (X : Cx) (t : DGs) : TGs := fun vs σ H Q => ∃ C F env fp ds, SR X.K X.mg C F H σ env fp ∧ Reps X.K X.mg F vs ds ∧ t.run ds env fun env' => ∀ F' H' σ' fp', SR X.K X.mg C F' H' σ' env' fp' → Same F F' → Q σ' H'
def gN (i : Nat) : DG where
  run d env Q := Q (env.set i (.sh d))
  mono _ _ _ _ h q := h _ q
def gNilD : DGs where
  run ds env Q := match ds with
    | [] => Q env
    | _ => False
  mono ds _ _ _ h q := by
    cases ds
    · exact h _ q
    · exact q.elim
def gConsD (t : DG) (u : DGs) : DGs where
  run ds env Q := match ds with
    | d :: ds => t.run d env fun e1 => u.run ds e1 Q
    | [] => False
  mono ds _ _ _ h q := by
    cases ds
    · exact q.elim
    · exact t.mono _ _ _ _ (fun e1 q => u.mono _ _ _ _ h q) q
def gTupD (n : Nat) (t : DGs) : DG where
  run d env Q := match d with
    | .tup ds => ds.length = n ∧ t.run ds env Q
    | _ => False
  mono d _ _ _ h q := by
    cases d <;> first | exact (show False from q).elim | exact ⟨q.1, t.mono _ _ _ _ h q.2⟩
theorem pg_imp {g g' : TG} (h : PG X e g) (m : ∀ v σ H Q, g' v σ H Q → g v σ H Q) : PG X e g' := ⟨fun pins s σ H v u Q I r q => h.run pins s σ H v u Q I r (m v σ H Q q)⟩
theorem pgs_imp {es : List Expr} {g g' : TGs} (h : PGs X es g) (m : ∀ v σ H Q, g' v σ H Q → g v σ H Q) : PGs X es g' := ⟨fun pins s σ H v u Q I r q => h.run pins s σ H v u Q I r (m v σ H Q q)⟩
theorem dg_name {i : Nat} (h : PG X e (gName i)) : PG X e (LG X (gN i)) := by
  refine pg_imp h fun v σ H Q q => ?_
  obtain ⟨C, F, env, fp, d, S, r, q⟩ := q
  exact q F H _ _ (S.setS r) (Same.refl F)
theorem dgs_nil : PGs X [] (LGs X gNilD) := by
  refine pgs_imp pgs_nil fun vs σ H Q q => ?_
  obtain ⟨C, F, env, fp, ds, S, r, q⟩ := q
  cases r with
  | nil => exact ⟨rfl, q F H σ fp S (Same.refl F)⟩
  | cons _ _ => exact (show False from q).elim
theorem dgs_cons {es : List Expr} {g : DG} {gs : DGs} (h1 : PG X e (LG X g)) (h2 : PGs X es (LGs X gs)) (hs : (assignEach (e :: es) X.env).map (·.2) = assign e X.env :: (assignEach es X.env).map (·.2) := by rfl) : PGs X (e :: es) (LGs X (gConsD g gs)) := by
  refine pgs_imp (pgs_cons h1 h2 hs) fun vs σ H Q q => ?_
  obtain ⟨C, F, env, fp, ds, S, r, q⟩ := q
  cases r with
  | nil => exact (show False from q).elim
  | cons r1 r2 =>
    refine ⟨_, _, rfl, C, F, env, fp, _, S, r1, g.mono _ _ _ _ (fun e1 q F' H' σ' fp' S' s' => ?_) q⟩
    exact ⟨C, F', e1, fp', _, S', r2.up s', gs.mono _ _ _ _ (fun e2 q F2 H2 σ2 fp2 S2 s2 => q F2 H2 σ2 fp2 S2 (s'.trans s2)) q⟩
theorem dg_tup {es : List Expr} {k n : Nat} {gs : DGs} (hc : X.calm = true) (h : PGs X es (LGs X gs)) (hn : (assignEach es X.env).length = n := by rfl) (hst : (assignEach es X.env).findIdx? (·.1) = none := by rfl) : PG X (.Tuple es k pos) (LG X (gTupD n gs)) := by
  refine pg_imp (pg_tup hc h hn hst) fun v σ H Q q => ?_
  obtain ⟨C, F, env, fp, d, S, r, q⟩ := q
  cases r <;> first | exact (show False from q).elim | skip
  rename_i a vs ds h1 h2
  obtain ⟨q1, q2⟩ := q
  exact ⟨a, vs, rfl, same_t S.fh h1, h2.len.trans q1, C, F, env, fp, ds, S, h2, q2⟩

/-! ### stores -/
def sAsg (e : DE) (g : DG) : DS where
  run D env := e.run env fun r e1 => dat e1 r fun d e2 => g.run d e2 D.nx
  mono D D' env h q := e.mono _ _ _ (fun r e1 q => dat_mono (fun d e2 q => g.mono _ _ _ _ h.nx q) q) q
theorem asg_down {g : DG} {D : Ends} {σ : L2.St} {H : Hp} (q : LS X (sAsg te g) D σ H) : tAsg (LE X te) (LG X g) D σ H := by
  obtain ⟨C, F, env, fp, S, q⟩ := q
  refine ⟨C, F, env, fp, S, te.mono _ _ _ (fun r e1 q F1 H1 fp1 v S1 s1 r1 => ?_) q⟩
  obtain ⟨F2, e2, fp2, d, S2, s2, r2, q⟩ := dat_ok S1 r1 q
  exact ⟨C, F2, e2, fp2, d, S2, r2, g.mono _ _ _ _ (fun e3 q F3 H3 σ3 fp3 S3 s3 => q F3 H3 σ3 fp3 S3 ((s1.trans s2).trans s3)) q⟩
theorem ds_asg {tg : Expr} {g : DG} (he : PE X e (LE X te)) (hg : PG X tg (LG X g)) (hs : swapsWithSole [tg] e pos.line X.env = pure false := by rfl) (hw : swappedStores [tg] e X.env = pure none := by rfl)
    (h1 : (assignEach [tg] X.env).map (·.2) = [assign tg X.env] := by rfl) : PS X (.Assign [tg] e pos) (LS X (sAsg te g)) := ps_imp (ps_asg he hg hs hw h1) fun D σ H q => asg_down q
abbrev sSet (i : Nat) (e : DE) : DS := sAsg e (gN i)
theorem set_down {i : Nat} {D : Ends} {σ : L2.St} {H : Hp} (q : LS X (sSet i te) D σ H) : tAsg (LE X te) (gName i) D σ H := by
  obtain ⟨C, F, env, fp, S, q⟩ := q
  refine ⟨C, F, env, fp, S, te.mono _ _ _ (fun r e1 q F1 H1 fp1 v S1 s1 r1 => ?_) q⟩
  obtain ⟨F2, e2, fp2, d, S2, s2, r2, q⟩ := dat_ok S1 r1 q
  exact q F2 H1 _ _ (S2.setS r2) (s1.trans s2)
/-- name = e, the name holds data -/
theorem ds_set {i : Nat} {x : Str} {pos' : Pos} (hN : X.N.Nodup) (hi : X.N[i]? = some x) (hx : Loc X.env.scope x) (he : PE X e (LE X te)) (hs : swapsWith e (some (.Name x pos')) pos.line X.env = pure false := by rfl)
    (hf : X.fn x = true ∨ X.env.scope.names.lookup x = some .local := by first | exact .inl rfl | exact .inr rfl | assumption) : PS X (.Assign [.Name x pos'] e pos) (LS X (sSet i te)) := ps_imp (ps_set hN hi hx he hs hf) fun D σ H q => set_down q
/-- name = e, a new list that the name's slot owns -/
def sOwn (i : Nat) (e : DE) : DS where
  run D env := e.run env fun r e1 => match r with
    | .fr ds => D.nx (e1.set i (.ow ds))
    | .sh d => D.nx (e1.set i (.sh d))
    | .bo _ => False
  mono D D' env h q := by
    refine e.mono _ _ _ (fun r e1 q => ?_) q
    split at q
    · exact h.nx _ q
    · exact h.nx _ q
    · exact q.elim
theorem own_down {i : Nat} {D : Ends} {σ : L2.St} {H : Hp} (q : LS X (sOwn i te) D σ H) : tAsg (LE X te) (gName i) D σ H := by
  obtain ⟨C, F, env, fp, S, q⟩ := q
  refine ⟨C, F, env, fp, S, te.mono _ _ _ (fun r e1 q F1 H1 fp1 v S1 s1 r1 => ?_) q⟩
  split at q
  · obtain ⟨fp2, S2⟩ := S1.setO (i := i) r1
    exact q F1 H1 _ _ S2 s1
  · exact q F1 H1 _ _ (S1.setS r1) s1
  · exact q.elim
theorem ds_own {i : Nat} {x : Str} {pos' : Pos} (hN : X.N.Nodup) (hi : X.N[i]? = some x) (hx : Loc X.env.scope x) (he : PE X e (LE X te)) (hs : swapsWith e (some (.Name x pos')) pos.line X.env = pure false := by rfl)
    (hf : X.fn x = true ∨ X.env.scope.names.lookup x = some .local := by first | exact .inl rfl | exact .inr rfl | assumption) : PS X (.Assign [.Name x pos'] e pos) (LS X (sOwn i te)) := ps_imp (ps_set hN hi hx he hs hf) fun D σ H q => own_down q
/-- a, b = x, y -/
def sPar (i j : Nat) (as : DA) : DS where
  run D env := as.run env fun ds e1 => match ds with
    | [d, e] => D.nx ((e1.set i (.sh d)).set j (.sh e))
    | _ => False
  mono D D' env h q := by
    refine as.mono _ _ _ (fun ds e1 q => ?_) q
    split at q
    · exact h.nx _ q
    · exact q.elim
theorem ds_par {i j : Nat} {x y : Str} {tr : DA} {px py pt : Pos} {kt k2 pt2} (hc : X.calm = true) (hN : X.N.Nodup) (hi : X.N[i]? = some x) (hj : X.N[j]? = some y) (hij : i ≠ j)
    (hx : X.env.scope.names.lookup x = some .local) (hy : X.env.scope.names.lookup y = some .local) (ha : PA X [a, b] (LA X tr))
    (hw : swappedStores [.Tuple [.Name x px, .Name y py] kt pt] (.Tuple [a, b] k2 pt2) X.env = pure (some [x, y]))
    (hs : swapsWithSole [.Tuple [.Name x px, .Name y py] kt pt] (.Tuple [a, b] k2 pt2) pos.line X.env = pure false := by rfl) :
    PS X (.Assign [.Tuple [.Name x px, .Name y py] kt pt] (.Tuple [a, b] k2 pt2) pos) (LS X (sPar i j tr)) := by
  refine ps_imp (ps_par hc hN hi hj hij hx hy ha hw hs) fun D σ H q => ?_
  obtain ⟨C, F, env, fp, S, q⟩ := q
  refine ⟨C, F, env, fp, S, tr.mono _ _ _ (fun ds e1 q F1 H1 fp1 vs S1 s1 r1 => ?_) q⟩
  split at q
  · cases r1 with
    | cons r1 r2 =>
      cases r2 with
      | cons r2 r3 =>
        cases r3
        exact ⟨_, _, rfl, q F1 H1 _ _ ((S1.setS r1).setS r2) s1⟩
  · exact q.elim
/-- name op= e -/
def sAug (i : Nat) (R : RO) (e : DE) : DS where
  run D env := match env[i]? with
    | some (.sh d) => e.run env fun r e1 => match look e1 r with
      | some d' => (R d d').1 ∧ match (R d d').2 with
        | .sh z => D.nx (e1.set i (.sh z))
        | _ => False
      | none => False
    | _ => False
  mono D D' env h q := by
    split at q
    · refine e.mono _ _ _ (fun r e1 q => ?_) q
      split at q
      · refine ⟨q.1, ?_⟩
        have q := q.2
        split at q
        · exact h.nx _ q
        · exact q.elim
      · exact q.elim
    · exact q.elim
theorem ds_aug {i : Nat} {x : Str} {op : Operator} {R : RO} {pos' : Pos} (ho : OpS X (inplaceOp op) R) (hN : X.N.Nodup) (hi : X.N[i]? = some x) (hx : Loc X.env.scope x) (he : PE X e (LE X te))
    (hf : X.fn x = true ∨ X.env.scope.names.lookup x = some .local := by first | exact .inl rfl | exact .inr rfl | assumption) : PS X (.AugAssign (.Name x pos') op e pos) (LS X (sAug i R te)) := by
  obtain ⟨r, h1, h2⟩ := ho
  refine ps_imp (ps_aug (ti := r) hN hi hx he h1 hf) fun D σ H q => ?_
  obtain ⟨C, F, env, fp, S, q⟩ := q
  have q : (match env[i]? with
    | some (.sh d) => te.run env fun r e1 => match look e1 r with
      | some d' => (R d d').1 ∧ match (R d d').2 with
        | .sh z => (upE X C F D).nx (e1.set i (.sh z))
        | _ => False
      | none => False
    | _ => False) := q
  split at q
  · rename_i d hd
    obtain ⟨_, v, b, c⟩ := S.sl i _ hd
    refine ⟨v, b, C, F, env, fp, S, te.mono _ _ _ (fun y e1 q F1 H1 fp1 u S1 s1 r1 => ?_) q⟩
    split at q
    · rename_i d' hd'
      obtain ⟨q1, q⟩ := q
      refine h2 C F1 H1 σ e1 fp1 v u d d' _ S1 (RT.of (c.up s1) S1.fh) (look_rt S1 r1 hd') q1 fun F2 H2 fp2 w S2 s2 r2 => ?_
      split at q
      · rename_i z hz
        rw [hz] at r2
        exact q F2 H2 _ _ (S2.setS r2) (s1.trans s2)
      · exact q.elim
    · exact q.elim
  · exact q.elim
/-- xs[k] = e, xs the own list in slot j -/
def sStore (j : Nat) (e k : DE) : DS where
  run D env := e.run env fun r e1 => dat e1 r fun d e2 => (ownAt e2 j).isSome = true ∧ k.run e2 fun rk e3 => match rk, ownAt e3 j with
    | .sh (.int n), some xs => (ixN xs.length n).isSome = true ∧ D.nx (putAt e3 j (xs.set ((ixN xs.length n).getD 0) d))
    | _, _ => False
  mono D D' env h q := by
    refine e.mono _ _ _ (fun r e1 q => ?_) q
    refine dat_mono (fun d e2 q => ⟨q.1, ?_⟩) q
    refine k.mono _ _ _ (fun rk e3 q => ?_) q.2
    split at q
    · exact ⟨q.1, h.nx _ q.2⟩
    · exact q.elim
theorem ds_store {j : Nat} {o k : Expr} {tk : DE} {p2 : Pos} (he : PE X e (LE X te)) (ho : PE X o (tVar j)) (hk : PE X k (LE X tk))
    (ha : ∀ v, assign (.Subscript o k p2) X.env v = (do
      let ov ← holding [v] (eval o X.env)
      let iv ← holding [v, ov] (eval k X.env)
      standAt p2
      holding [v, ov, iv] (setItem ov iv v)
      release [v, ov, iv] []) := by intro _; rfl)
    (hs : swapsWithSole [.Subscript o k p2] e pos.line X.env = pure false := by rfl) (hw : swappedStores [.Subscript o k p2] e X.env = pure none := by rfl)
    (h1 : (assignEach [.Subscript o k p2] X.env).map (·.2) = [assign (.Subscript o k p2) X.env] := by rfl) : PS X (.Assign [.Subscript o k p2] e pos) (LS X (sStore j te tk)) := by
  refine ps_imp (ps_asg he (pg_sub ho hk set_list ha) hs hw h1) fun D σ H q => ?_
  obtain ⟨C, F, env, fp, S, q⟩ := q
  refine ⟨C, F, env, fp, S, te.mono _ _ _ (fun r e1 q F1 H1 fp1 v S1 s1 r1 => ?_) q⟩
  obtain ⟨F2, e2, fp2, d, S2, s2, r2, q0, q⟩ := dat_ok S1 r1 q
  obtain ⟨xs0, h0⟩ := Option.isSome_iff_exists.mp q0
  obtain ⟨s0, a0, b0, _⟩ := ownAt_sl h0
  obtain ⟨p, ws0, z0, hp, c0, d0⟩ := S2.ownAt a0 b0
  refine ⟨.ref p, hp, C, F2, e2, fp2, S2, tk.mono _ _ _ (fun rk e3 q F3 H3 fp3 w S3 s3 r3 => ?_) q⟩
  split at q
  · rename_i n xs hxs
    cases r3
    obtain ⟨q1, q⟩ := q
    obtain ⟨m, hm⟩ := Option.isSome_iff_exists.mp q1
    rw [hm] at q
    obtain ⟨sl, hsl, ho, hput⟩ := ownAt_sl hxs
    obtain ⟨p', ws, z, hp', c, d1⟩ := S3.ownAt hsl ho
    rw [hp] at hp'
    cases hp'
    refine ⟨p, ws, n, m, rfl, rfl, c, by rw [d1.len]; exact hm, ?_⟩
    have S4 := S3.write (ys := xs.set m d) hsl ho hp (d1.set (r2.up s3) m)
    rw [← hput] at S4
    exact q F3 _ σ fp3 S4 ((s1.trans s2).trans s3)
  · exact q.elim

/-! ### while -/
def sWhile (c : DT) (b : DS) : DS where
  run D env := ∃ W : Nat → En → Prop, (∃ m, W m env) ∧ ∀ m e, W m e → c.run e fun k e1 => if k = true then ∃ N : En → Prop, (∀ e', N e' → ∃ m', m' < m ∧ W m' e') ∧ b.run { D with nx := N, ct := N, bk := D.nx } e1 else D.nx e1
  mono D D' env h q := by
    obtain ⟨W, h0, q⟩ := q
    refine ⟨W, h0, fun m e w => c.mono _ _ _ (fun k e1 q => ?_) (q m e w)⟩
    cases k with
    | false => exact h.nx _ q
    | true =>
      obtain ⟨N, hN, q⟩ := q
      exact ⟨N, hN, b.to q ⟨fun _ q => q, h.rt, h.nx, fun _ q => q⟩⟩
theorem ds_while {c : Expr} {body : List Stmt} {tc : DT} (hp : PassesOwn (model X.prog X.w) X.A X.env X.xe) (hc : PT X c (LT X tc)) (hb : PSs X body (LS X t)) : PS X (.While c body [] pos) (LS X (sWhile tc t)) := by
  refine ps_imp (ps_while hp hc hb) fun D σ H q => ?_
  obtain ⟨C, F, env, fp, S, W, ⟨m0, w0⟩, q⟩ := q
  refine ⟨fun m σ H => ∃ F1 e1 fp1, SR X.K X.mg C F1 H σ e1 fp1 ∧ Same F F1 ∧ W m e1, ⟨m0, F, env, fp, S, Same.refl F, w0⟩, fun m σ H w => ?_⟩
  obtain ⟨F1, e1, fp1, S1, s1, w⟩ := w
  refine ⟨C, F1, e1, fp1, S1, tc.mono _ _ _ (fun k e2 q F2 H2 fp2 S2 s2 => ?_) (q m e1 w)⟩
  cases k with
  | false => exact q F2 H2 σ fp2 S2 (s1.trans s2)
  | true =>
    obtain ⟨N, hN, q⟩ := q
    refine ⟨fun σ' H' => ∃ F3 e3 fp3, SR X.K X.mg C F3 H' σ' e3 fp3 ∧ Same F F3 ∧ N e3, fun σ' H' n => ?_, C, F2, e2, fp2, S2, t.to q ⟨fun e q F3 H3 σ3 fp3 S3 s3 => ⟨F3, e, fp3, S3, (s1.trans s2).trans s3, q⟩, fun r e q F3 H3 σ3 fp3 v S3 s3 rv => q F3 H3 σ3 fp3 v S3 ((s1.trans s2).trans s3) rv, fun e q F3 H3 σ3 fp3 S3 s3 => q F3 H3 σ3 fp3 S3 ((s1.trans s2).trans s3), fun e q F3 H3 σ3 fp3 S3 s3 => ⟨F3, e, fp3, S3, (s1.trans s2).trans s3, q⟩⟩⟩
    obtain ⟨F3, e3, fp3, S3, s3, n⟩ := n
    obtain ⟨m', hm, w'⟩ := hN e3 n
    exact ⟨m', hm, F3, e3, fp3, S3, s3, w'⟩

/-! ### what is walked -/
structure DI where
  run : En → (List D → En → Prop) → Prop
  mono : ∀ env (Q Q' : List D → En → Prop), (∀ r e, Q r e → Q' r e) → run env Q → run env Q'
/-- the iterator gives these items, one a turn -/
def JOk (X : Cx) (F : Hp) (J : It) (items : List D) : Prop := ∀ C k F1 H1 σ env fp, SR X.K X.mg C F1 H1 σ env fp → Same F F1 →
  (∀ d, items[k]? = some d → J.go k H1 ∧ ∀ x H', J.yld k H1 x H' → ∃ F', SR X.K X.mg C F' H' σ env fp ∧ Same F1 F' ∧ Rep X.K X.mg F' x d) ∧ (items.length ≤ k → J.stop k H1)
def LI (X : Cx) (t : DI) : TI := fun σ H R => ∃ C F env fp, SR X.K X.mg C F H σ env fp ∧ t.run env fun items env' => ∀ F' H' fp' J, SR X.K X.mg C F' H' σ env' fp' → Same F F' → JOk X F' J items → R J H'
theorem pi_imp {tg it : Expr} {w w' : TI} (h : PI X tg it w) (m : ∀ σ H R, w' σ H R → w σ H R) : PI X tg it w' := ⟨fun pins s σ H R I q => h.run pins s σ H R I (m σ H R q)⟩
/-! for -/
def sFor (i : DI) (g : DG) (b : DS) : DS where
  run D env := i.run env fun items e0 => ∃ W : Nat → En → Prop, W 0 e0 ∧ (∀ k x e1, items[k]? = some x → W k e1 → g.run x e1 fun e2 => b.run { D with nx := W (k + 1), ct := W (k + 1), bk := D.nx } e2) ∧ ∀ e1, W items.length e1 → D.nx e1
  mono D D' env h q := by
    refine i.mono _ _ _ (fun items e0 q => ?_) q
    obtain ⟨W, w0, hs, hd⟩ := q
    exact ⟨W, w0, fun k x e1 hx w => g.mono _ _ _ _ (fun e2 q => DS.to b (D := { D with nx := W (k + 1), ct := W (k + 1), bk := D.nx }) q ⟨fun _ q => q, h.rt, h.nx, fun _ q => q⟩) (hs k x e1 hx w), fun e1 w => h.nx _ (hd e1 w)⟩
theorem ds_for {tg iter : Expr} {body : List Stmt} {di : DI} {g : DG} (hp : PassesOwn (model X.prog X.w) X.A X.env X.xe) (hc : X.calm = true) (hi : PI X tg iter (LI X di)) (hg : PG X tg (LG X g)) (hb : PSs X body (LS X t))
    (hs : ∀ x, foldedSetIterable iter X.env x = pure x := by intro _; rfl) : PS X (.For tg iter body [] pos) (LS X (sFor di g t)) := by
  refine ps_imp (ps_for hp hc hi hg hb hs) fun D σ H q => ?_
  obtain ⟨C, F, env, fp, S, q⟩ := q
  refine ⟨C, F, env, fp, S, di.mono _ _ _ (fun items e0 q F0 H0 fp0 J S0 s0 jk => ?_) q⟩
  obtain ⟨W, w0, hs, hd⟩ := q
  refine ⟨fun k m σ H => m = items.length - k ∧ k ≤ items.length ∧ ∃ F1 e1 fp1, SR X.K X.mg C F1 H σ e1 fp1 ∧ Same F0 F1 ∧ W k e1, ⟨_, rfl, Nat.zero_le _, F0, e0, fp0, S0, Same.refl F0, w0⟩, fun k m σ H w => ?_⟩
  obtain ⟨rfl, hk, F1, e1, fp1, S1, s1, w⟩ := w
  obtain ⟨j1, j2⟩ := jk C k F1 H σ e1 fp1 S1 s1
  by_cases hlt : k < items.length
  · refine .inr ?_
    obtain ⟨g1, g2⟩ := j1 items[k] (List.getElem?_eq_getElem hlt)
    refine ⟨g1, fun σ' H' => ∃ F2 e2 fp2, SR X.K X.mg C F2 H' σ' e2 fp2 ∧ Same F0 F2 ∧ W (k + 1) e2, fun σ' H' n => ?_, fun x H' y => ?_⟩
    · obtain ⟨F2, e2, fp2, S2, s2, n⟩ := n
      exact ⟨items.length - (k + 1), by omega, rfl, hlt, F2, e2, fp2, S2, s2, n⟩
    · obtain ⟨F2, S2, s2, r2⟩ := g2 x H' y
      refine ⟨C, F2, e1, fp1, _, S2, r2, g.mono _ _ _ _ (fun e2 q F3 H3 σ3 fp3 S3 s3 => ?_) (hs k _ e1 (List.getElem?_eq_getElem hlt) w)⟩
      refine ⟨C, F3, e2, fp3, S3, t.to q ⟨fun e q F4 H4 σ4 fp4 S4 s4 => ⟨F4, e, fp4, S4, ((s1.trans s2).trans s3).trans s4, q⟩, fun r e q F4 H4 σ4 fp4 v S4 s4 rv => q F4 H4 σ4 fp4 v S4 ((((s0.trans s1).trans s2).trans s3).trans s4) rv, fun e q F4 H4 σ4 fp4 S4 s4 => q F4 H4 σ4 fp4 S4 ((((s0.trans s1).trans s2).trans s3).trans s4), fun e q F4 H4 σ4 fp4 S4 s4 => ⟨F4, e, fp4, S4, ((s1.trans s2).trans s3).trans s4, q⟩⟩⟩
  · have e : k = items.length := by omega
    subst e
    exact .inl ⟨j2 (Nat.le_refl _), hd e1 w F1 H σ fp1 S1 (s0.trans s1)⟩
end
end Dn

set_option Elab.async false
set_option linter.all false
set_option maxRecDepth 100000
set_option maxHeartbeats 4000000
/-! Dn, part 7: what is walked, comprehensions, methods of lists, defs. -/
namespace Dn
open PySem PySem.Spec PyProof.Rows L2
section
variable {X : Cx} {tg e a b c : Expr} {te ta tb : DE} {tr : DA} {pos p : Pos}

/-! ### a list, a tuple -/
theorem jok_list {F : Hp} {q : Addr} {vs : List V} {ds : List D} (h : SqL X.K F q vs) (r : Reps X.K X.mg F vs ds) (uniq : ∀ F1 H1 σ env fp C ys, SR X.K X.mg C F1 H1 σ env fp → Same F F1 → SqL X.K H1 q ys → ys = vs) : JOk X F (Itl X.K q) ds := by
  intro C k F1 H1 σ env fp S s
  have hq : SqL X.K H1 q vs := (s.trans S.fh).seq h
  refine ⟨fun d hd => ?_, fun hk => ⟨vs, hq, by rw [r.len]; exact hk⟩⟩
  obtain ⟨v, h1, h2⟩ := r.get hd
  refine ⟨⟨vs, v, hq, h1⟩, fun x H' y => ?_⟩
  obtain ⟨rfl, y⟩ := y
  have e1 := y vs hq
  rw [h1] at e1
  cases e1
  exact ⟨F1, S, Same.refl F1, h2.up s⟩
theorem jokL {F : Hp} {q : Addr} {vs : List V} {ds : List D} (h : SqL X.K F q vs) (r : Reps X.K X.mg F vs ds) : JOk X F (Itl X.K q) ds := by
  intro C k F1 H1 σ env fp S s
  have hq : SqL X.K H1 q vs := (s.trans S.fh).seq h
  refine ⟨fun d hd => ?_, fun hk => ⟨vs, hq, by rw [r.len]; exact hk⟩⟩
  obtain ⟨v, h1, h2⟩ := r.get hd
  refine ⟨⟨vs, v, hq, h1⟩, fun x H' y => ?_⟩
  obtain ⟨rfl, y⟩ := y
  have e1 := y vs hq
  rw [h1] at e1
  cases e1
  exact ⟨F1, S, Same.refl F1, h2.up s⟩
theorem jokT {F : Hp} {q : Addr} {vs : List V} {ds : List D} (h : SqT X.K F q vs) (r : Reps X.K X.mg F vs ds) : JOk X F (Itt X.K q) ds := by
  intro C k F1 H1 σ env fp S s
  have hq : SqT X.K H1 q vs := same_t (s.trans S.fh) h
  refine ⟨fun d hd => ?_, fun hk => ⟨vs, hq, by rw [r.len]; exact hk⟩⟩
  obtain ⟨v, h1, h2⟩ := r.get hd
  refine ⟨⟨vs, v, hq, h1⟩, fun x H' y => ?_⟩
  obtain ⟨rfl, y⟩ := y
  have e1 := y vs hq
  rw [h1] at e1
  cases e1
  exact ⟨F1, S, Same.refl F1, h2.up s⟩
def iSeqV (K : PySem.W.Frag) (tl : TE) : TI := fun σ H R => tl σ H fun x H1 => ∃ a, x = .ref a ∧ (((∃ xs, SqL K H1 a xs) ∧ R (Itl K a) H1) ∨ ((∃ xs, SqT K H1 a xs) ∧ R (Itt K a) H1))
theorem pi_seq {l : Expr} {tl : TE} (hl : PE X l tl) : PI X tg l (iSeqV X.K tl) := by
  refine ⟨fun pins s σ H R I h => thn (hl.run pins s σ H _ I h) fun v s1 z => ?_⟩
  obtain ⟨x, H1, I1, r1, a, e, q⟩ := z
  subst e
  cases r1
  rcases q with ⟨⟨xs, hq⟩, q⟩ | ⟨⟨xs, hq⟩, q⟩
  · obtain ⟨its, _, pl, _⟩ := I1.list hq
    exact wpAny_pyIter_list pl.isList (pi_one (tk := s1.toks) I1 _ (turn_list a _) ⟨_, Heap.get?_push_size _ rfl, rfl, rfl⟩ q)
  · obtain ⟨its, _, pl, _⟩ := I1.tuple hq
    exact wpAny_pyIter_tuple (show s1.heap.IsTuple a its.toArray from pl) (pi_one (tk := s1.toks) I1 _ (turn_tuple a _) ⟨_, Heap.get?_push_size _ rfl, rfl, rfl⟩ q)
def iSeq (e : DE) : DI where
  run env Q := e.run env fun r e1 => dat e1 r fun d e2 => match d with
    | .lst ds => Q ds e2
    | .tup ds => Q ds e2
    | .frz ds => Q ds e2
    | _ => False
  mono env Q Q' h q := by
    refine e.mono _ _ _ (fun r e1 q => dat_mono (fun d e2 q => ?_) q) q
    cases d <;> first | exact (show False from q).elim | exact h _ _ q
theorem di_seq (he : PE X e (LE X te)) : PI X tg e (LI X (iSeq te)) := by
  refine pi_imp (pi_seq he) fun σ H R q => ?_
  obtain ⟨C, F, env, fp, S, q⟩ := q
  refine ⟨C, F, env, fp, S, te.mono _ _ _ (fun r e1 q F1 H1 fp1 v S1 s1 r1 => ?_) q⟩
  obtain ⟨F2, e2, fp2, d, S2, s2, r2, q⟩ := dat_ok S1 r1 q
  cases r2 <;> first | exact (show False from q).elim | skip
  · rename_i a vs ds h1 h2
    exact ⟨a, rfl, .inl ⟨⟨vs, SqL.of (S2.fh _ _ h1)⟩, q F2 H1 fp2 _ S2 (s1.trans s2) (jokL (SqL.of h1) h2)⟩⟩
  · rename_i a vs ds h1 h2
    exact ⟨a, rfl, .inr ⟨⟨vs, same_t S2.fh h1⟩, q F2 H1 fp2 _ S2 (s1.trans s2) (jokT h1 h2)⟩⟩
  · rename_i a vs ds h1 h2
    exact ⟨a, rfl, .inl ⟨⟨vs, S2.fh.seq h1⟩, q F2 H1 fp2 _ S2 (s1.trans s2) (jokL h1 h2)⟩⟩
/-! ### ranges -/
def rangeD (lo : Int) (n : Nat) : List D := (List.range n).map fun k => .int (lo + (k : Nat))
theorem rangeD_get {lo : Int} {n k : Nat} : (rangeD lo n)[k]? = if k < n then some (.int (lo + (k : Nat))) else none := by
  unfold rangeD
  rw [List.getElem?_map]
  by_cases h : k < n
  · rw [if_pos h, List.getElem?_range h]; rfl
  · rw [if_neg h, List.getElem?_eq_none (by rw [List.length_range]; omega)]; rfl
theorem rangeD_len {lo : Int} {n : Nat} : (rangeD lo n).length = n := by unfold rangeD; rw [List.length_map, List.length_range]
theorem jokR {F : Hp} {lo : Int} {n : Nat} : JOk X F (Itr lo n) (rangeD lo n) := by
  intro C k F1 H1 σ env fp S s
  refine ⟨fun d hd => ?_, fun hk => by rw [rangeD_len] at hk; exact hk⟩
  rw [rangeD_get] at hd
  split at hd
  · rename_i hk
    cases hd
    refine ⟨hk, fun x H' y => ?_⟩
    obtain ⟨rfl, rfl⟩ := y
    exact ⟨F1, S, Same.refl F1, .int _⟩
  · cases hd
def rangeC (lo c : Int) (n : Nat) : List D := (List.range n).map fun k => .int (lo + (k : Nat) * c)
theorem rangeC_get {lo c : Int} {n k : Nat} : (rangeC lo c n)[k]? = if k < n then some (.int (lo + (k : Nat) * c)) else none := by
  unfold rangeC
  rw [List.getElem?_map]
  by_cases h : k < n
  · rw [if_pos h, List.getElem?_range h]; rfl
  · rw [if_neg h, List.getElem?_eq_none (by rw [List.length_range]; omega)]; rfl
theorem rangeC_len {lo c : Int} {n : Nat} : (rangeC lo c n).length = n := by unfold rangeC; rw [List.length_map, List.length_range]
theorem jokC {F : Hp} {lo c : Int} {n : Nat} : JOk X F (Itc lo c n) (rangeC lo c n) := by
  intro C k F1 H1 σ env fp S s
  refine ⟨fun d hd => ?_, fun hk => by rw [rangeC_len] at hk; exact hk⟩
  rw [rangeC_get] at hd
  split at hd
  · rename_i hk
    cases hd
    refine ⟨hk, fun x H' y => ?_⟩
    obtain ⟨rfl, rfl⟩ := y
    exact ⟨F1, S, Same.refl F1, .int _⟩
  · cases hd
def Sm (i : Int) : Prop := -4000000000000000000 ≤ i ∧ i ≤ 4000000000000000000
def iRange1 (as : DA) : DI where
  run env Q := as.run env fun ds e1 => match ds with
    | [.int j] => Sm j ∧ Q (rangeD 0 j.toNat) e1
    | _ => False
  mono env Q Q' h q := by
    refine as.mono _ _ _ (fun ds e1 q => ?_) q
    split at q
    · exact ⟨q.1, h _ _ q.2⟩
    · exact q.elim
def iRange2 (as : DA) : DI where
  run env Q := as.run env fun ds e1 => match ds with
    | [.int i, .int j] => Sm i ∧ Sm j ∧ Q (rangeD i (j - i).toNat) e1
    | _ => False
  mono env Q Q' h q := by
    refine as.mono _ _ _ (fun ds e1 q => ?_) q
    split at q
    · exact ⟨q.1, q.2.1, h _ _ q.2.2⟩
    · exact q.elim
def iRange3 (as : DA) : DI where
  run env Q := as.run env fun ds e1 => match ds with
    | [.int i, .int j, .int c] => ∃ n, RgC i j c n ∧ Q (rangeC i c n) e1
    | _ => False
  mono env Q Q' h q := by
    refine as.mono _ _ _ (fun ds e1 q => ?_) q
    split at q
    · obtain ⟨n, q1, q2⟩ := q
      exact ⟨n, q1, h _ _ q2⟩
    · exact q.elim
theorem di_range1 (hg : Gl X "range") (hm : X.mg "range" = none) (ha : PA X [a] (LA X tr)) (hs : starEach [a] X.env = [(false, eval a X.env)] := by rfl) : PI X tg (.Call (.Name "range" p) [a] [] pos) (LI X (iRange1 tr)) := by
  refine pi_imp (pi_range1 hg hm ha hs) fun σ H R q => ?_
  obtain ⟨C, F, env, fp, S, q⟩ := q
  refine ⟨C, F, env, fp, S, tr.mono _ _ _ (fun ds e1 q F1 H1 fp1 vs S1 s1 r1 => ?_) q⟩
  split at q
  · rename_i j
    cases r1 with
    | cons r1 r2 =>
      cases r2
      cases r1
      obtain ⟨⟨q1, q2⟩, q⟩ := q
      exact ⟨j, rfl, by omega, by omega, q F1 H1 fp1 _ S1 s1 jokR⟩
  · exact q.elim
theorem di_range2 (hg : Gl X "range") (hm : X.mg "range" = none) (ha : PA X [a, b] (LA X tr)) (hs : starEach [a, b] X.env = [(false, eval a X.env), (false, eval b X.env)] := by rfl) (hs2 : starEach [b] X.env = [(false, eval b X.env)] := by rfl) : PI X tg (.Call (.Name "range" p) [a, b] [] pos) (LI X (iRange2 tr)) := by
  refine pi_imp (pi_range2 hg hm ha hs hs2) fun σ H R q => ?_
  obtain ⟨C, F, env, fp, S, q⟩ := q
  refine ⟨C, F, env, fp, S, tr.mono _ _ _ (fun ds e1 q F1 H1 fp1 vs S1 s1 r1 => ?_) q⟩
  split at q
  · rename_i i j
    cases r1 with
    | cons r1 r2 =>
      cases r2 with
      | cons r2 r3 =>
        cases r3
        cases r1
        cases r2
        obtain ⟨⟨q1, q2⟩, ⟨q3, q4⟩, q⟩ := q
        exact ⟨i, j, rfl, ⟨by omega, by omega, by omega, by omega⟩, q F1 H1 fp1 _ S1 s1 jokR⟩
  · exact q.elim
theorem di_range3 (hg : Gl X "range") (hm : X.mg "range" = none) (ha : PA X [a, b, c] (LA X tr)) (hs : starEach [a, b, c] X.env = (false, eval a X.env) :: starEach [b, c] X.env := by rfl) (hpl : (backTo pos (starEach [b, c] X.env)).any (·.1) = false := by rfl) : PI X tg (.Call (.Name "range" p) [a, b, c] [] pos) (LI X (iRange3 tr)) := by
  refine pi_imp (pi_range3 hg hm ha hs hpl) fun σ H R q => ?_
  obtain ⟨C, F, env, fp, S, q⟩ := q
  refine ⟨C, F, env, fp, S, tr.mono _ _ _ (fun ds e1 q F1 H1 fp1 vs S1 s1 r1 => ?_) q⟩
  split at q
  · rename_i i j k
    cases r1 with
    | cons r1 r2 =>
      cases r2 with
      | cons r2 r3 =>
        cases r3 with
        | cons r3 r4 =>
          cases r4
          cases r1
          cases r2
          cases r3
          obtain ⟨n, q1, q⟩ := q
          exact ⟨i, j, k, n, rfl, q1, q F1 H1 fp1 _ S1 s1 jokC⟩
  · exact q.elim
/-! ### reversed, enumerate, zip of lists -/
def iListArg (f : List D → List D) (as : DA) : DI where
  run env Q := as.run env fun ds e1 => match ds with
    | [.lst xs] => Q (f xs) e1
    | [.frz xs] => Q (f xs) e1
    | _ => False
  mono env Q Q' h q := by
    refine as.mono _ _ _ (fun ds e1 q => ?_) q
    split at q
    · exact h _ _ q
    · exact h _ _ q
    · exact q.elim
theorem jokV {F : Hp} {q : Addr} {vs : List V} {ds : List D} (h : SqL X.K F q vs) (r : Reps X.K X.mg F vs ds) : JOk X F (Itv X.K q vs.length) ds.reverse := by
  intro C k F1 H1 σ env fp S s
  have hq : SqL X.K H1 q vs := (s.trans S.fh).seq h
  refine ⟨fun d hd => ?_, fun hk => by rw [List.length_reverse, ← r.len] at hk; exact hk⟩
  have hk : k < ds.length := by
    have := (List.getElem?_eq_some_iff.mp hd).1
    rw [List.length_reverse] at this
    exact this
  rw [List.getElem?_reverse hk] at hd
  obtain ⟨v, h1, h2⟩ := r.get hd
  rw [← r.len] at h1 hk
  refine ⟨⟨hk, vs, v, hq, h1⟩, fun x H' y => ?_⟩
  obtain ⟨rfl, y⟩ := y
  have e1 := y vs hq
  rw [h1] at e1
  cases e1
  exact ⟨F1, S, Same.refl F1, h2.up s⟩
theorem di_rev (hg : Gl X "reversed") (hm : X.mg "reversed" = none) (ha : PA X [e] (LA X tr)) (hs : starEach [e] X.env = [(false, eval e X.env)] := by rfl) : PI X tg (.Call (.Name "reversed" p) [e] [] pos) (LI X (iListArg List.reverse tr)) := by
  refine pi_imp (pi_reversed hg hm ha hs) fun σ H R q => ?_
  obtain ⟨C, F, env, fp, S, q⟩ := q
  refine ⟨C, F, env, fp, S, tr.mono _ _ _ (fun ds e1 q F1 H1 fp1 vs S1 s1 r1 => ?_) q⟩
  split at q
  · cases r1 with
    | cons r1 r2 =>
      cases r2
      cases r1 with
      | lst h1 h2 => exact ⟨_, _, rfl, SqL.of (S1.fh _ _ h1), q F1 H1 fp1 _ S1 s1 (jokV (SqL.of h1) h2)⟩
  · cases r1 with
    | cons r1 r2 =>
      cases r2
      cases r1 with
      | frz h1 h2 => exact ⟨_, _, rfl, S1.fh.seq h1, q F1 H1 fp1 _ S1 s1 (jokV h1 h2)⟩
  · exact q.elim
def enumD (ds : List D) : List D := ds.zipIdx.map fun x => .tup [.int (x.2 : Nat), x.1]
theorem enumD_get {ds : List D} {k : Nat} : (enumD ds)[k]? = (ds[k]?).map fun d => .tup [.int (k : Nat), d] := by
  unfold enumD
  rw [List.getElem?_map, List.getElem?_zipIdx]
  cases ds[k]? with
  | none => rfl
  | some d => simp
theorem enumD_len {ds : List D} : (enumD ds).length = ds.length := by unfold enumD; rw [List.length_map, List.length_zipIdx]
theorem jokE {F : Hp} {q : Addr} {vs : List V} {ds : List D} (h : SqL X.K F q vs) (r : Reps X.K X.mg F vs ds) : JOk X F (Ite X.K q) (enumD ds) := by
  intro C k F1 H1 σ env fp S s
  have hq : SqL X.K H1 q vs := (s.trans S.fh).seq h
  refine ⟨fun d hd => ?_, fun hk => ⟨vs, hq, by rw [enumD_len] at hk; rw [r.len]; exact hk⟩⟩
  rw [enumD_get] at hd
  cases hdk : ds[k]? with
  | none => rw [hdk] at hd; cases hd
  | some d0 =>
    rw [hdk] at hd
    cases hd
    obtain ⟨v, h1, h2⟩ := r.get hdk
    refine ⟨⟨vs, v, hq, h1⟩, fun x H' y => ?_⟩
    obtain ⟨T, w, rfl, hT, rfl, y⟩ := y
    have e1 := y vs hq
    rw [h1] at e1
    cases e1
    have sf : Same F1 (upd F1 T (.tup [.int (k : Nat), v])) := same_upd (S.fresh hT).1
    exact ⟨_, S.new _ hT, sf, .tup (SqT.of upd_same) (.cons (.int _) (.cons (h2.up (s.trans sf)) .nil))⟩
theorem di_enum {elts : List Expr} {kk : Nat} {tpos : Pos} (hg : Gl X "enumerate") (hm : X.mg "enumerate" = none) (ha : PA X [e] (LA X tr)) (hs : starEach [e] X.env = [(false, eval e X.env)] := by rfl) : PI X (.Tuple elts kk tpos) (.Call (.Name "enumerate" p) [e] [] pos) (LI X (iListArg enumD tr)) := by
  refine pi_imp (pi_enum hg hm ha hs) fun σ H R q => ?_
  obtain ⟨C, F, env, fp, S, q⟩ := q
  refine ⟨C, F, env, fp, S, tr.mono _ _ _ (fun ds e1 q F1 H1 fp1 vs S1 s1 r1 => ?_) q⟩
  split at q
  · cases r1 with
    | cons r1 r2 =>
      cases r2
      cases r1 with
      | lst h1 h2 => exact ⟨_, _, rfl, SqL.of (S1.fh _ _ h1), q F1 H1 fp1 _ S1 s1 (jokE (SqL.of h1) h2)⟩
  · cases r1 with
    | cons r1 r2 =>
      cases r2
      cases r1 with
      | frz h1 h2 => exact ⟨_, _, rfl, S1.fh.seq h1, q F1 H1 fp1 _ S1 s1 (jokE h1 h2)⟩
  · exact q.elim
def zipD (xs ys : List D) : List D := List.zipWith (fun x y => .tup [x, y]) xs ys
theorem jokZ {F : Hp} {q q' : Addr} {vs ws : List V} {ds es : List D} (h : SqL X.K F q vs) (h' : SqL X.K F q' ws) (r : Reps X.K X.mg F vs ds) (r' : Reps X.K X.mg F ws es) : JOk X F (Itz X.K q q') (zipD ds es) := by
  intro C k F1 H1 σ env fp S s
  have hq : SqL X.K H1 q vs := (s.trans S.fh).seq h
  have hq' : SqL X.K H1 q' ws := (s.trans S.fh).seq h'
  refine ⟨fun d hd => ?_, fun hk => ⟨vs, ws, hq, hq', by unfold zipD at hk; rw [List.length_zipWith] at hk; rw [r.len, r'.len]; omega⟩⟩
  unfold zipD at hd
  rw [List.getElem?_zipWith] at hd
  cases h1 : ds[k]? with
  | none => rw [h1] at hd; cases hd
  | some d1 =>
    cases h2 : es[k]? with
    | none => rw [h1, h2] at hd; cases hd
    | some d2 =>
      rw [h1, h2] at hd
      cases hd
      obtain ⟨v, a1, a2⟩ := r.get h1
      obtain ⟨w, b1, b2⟩ := r'.get h2
      refine ⟨⟨vs, ws, v, w, hq, hq', a1, b1⟩, fun x H' y => ?_⟩
      obtain ⟨T, x1, x2, rfl, hT, rfl, y1, y2⟩ := y
      have e1 := y1 vs hq
      rw [a1] at e1
      cases e1
      have e2 := y2 ws hq'
      rw [b1] at e2
      cases e2
      have sf : Same F1 (upd F1 T (.tup [v, w])) := same_upd (S.fresh hT).1
      exact ⟨_, S.new _ hT, sf, .tup (SqT.of upd_same) (.cons (a2.up (s.trans sf)) (.cons (b2.up (s.trans sf)) .nil))⟩
def iZipD (as : DA) : DI where
  run env Q := as.run env fun ds e1 => match ds with
    | [.lst xs, .lst ys] => Q (zipD xs ys) e1
    | _ => False
  mono env Q Q' h q := by
    refine as.mono _ _ _ (fun ds e1 q => ?_) q
    split at q
    · exact h _ _ q
    · exact q.elim
theorem di_zip {e2 : Expr} {elts : List Expr} {kk : Nat} {tpos : Pos} (hg : Gl X "zip") (hm : X.mg "zip" = none) (ha : PA X [e, e2] (LA X tr)) (hs : starEach [e, e2] X.env = (false, eval e X.env) :: starEach [e2] X.env := by rfl) (hpl : (backTo pos (starEach [e2] X.env)).any (·.1) = false := by rfl) :
    PI X (.Tuple elts kk tpos) (.Call (.Name "zip" p) [e, e2] [] pos) (LI X (iZipD tr)) := by
  refine pi_imp (pi_zip hg hm ha hs hpl) fun σ H R q => ?_
  obtain ⟨C, F, env, fp, S, q⟩ := q
  refine ⟨C, F, env, fp, S, tr.mono _ _ _ (fun ds e1 q F1 H1 fp1 vs S1 s1 r1 => ?_) q⟩
  split at q
  · cases r1 with
    | cons r1 r2 =>
      cases r2 with
      | cons r2 r3 =>
        cases r3
        cases r1 with
        | lst h1 h2 =>
          cases r2 with
          | lst h3 h4 => exact ⟨_, _, _, _, rfl, SqL.of (S1.fh _ _ h1), SqL.of (S1.fh _ _ h3), q F1 H1 fp1 _ S1 s1 (jokZ (SqL.of h1) (SqL.of h3) h2 h4)⟩
  · exact q.elim

/-! ### list comprehensions -/
def wipeE (env : En) : List Nat → En
  | [] => env
  | v :: vs => (wipeE env vs).set v .no
def Sl.plain : Sl → Prop
  | .no => True
  | .sh _ => True
  | _ => False
/-- the block's own names get their values of before -/
def unwipe (env e0 : En) : List Nat → En
  | [] => env
  | v :: vs => (unwipe env e0 vs).set v (e0.getD v .no)
structure DTs where
  run : En → (Bool → En → Prop) → Prop
  mono : ∀ env (Q Q' : Bool → En → Prop), (∀ r e, Q r e → Q' r e) → run env Q → run env Q'
def tYesD : DT where
  run env Q := Q true env
  mono _ _ _ h q := h _ _ q
theorem dts_nil : PTs X [] (LT X tYesD) := ⟨fun pins s σ H Q I q => pts_nil.run pins s σ H Q I (by
  obtain ⟨C, F, env, fp, S, q⟩ := q
  exact q F H fp S (Same.refl F))⟩
theorem dts_one {t : DT} (h : PT X c (LT X t)) : PTs X [c] (LT X t) := pts_one h
theorem SR.wiped {K : PySem.W.Frag} {mg : Str → Option Value} {C : Cn} {F H : Hp} {σ : L2.St} {env : En} {fp : Nat → List Addr} (S : SR K mg C F H σ env fp) : ∀ vs : List Nat, ∃ fp', SR K mg C F H (wipe σ vs) (wipeE env vs) fp'
  | [] => ⟨fp, S⟩
  | v :: vs => by
    obtain ⟨fp', S'⟩ := S.wiped vs
    exact ⟨_, S'.forget v none⟩
theorem set_getD {α : Type} {l : List α} {i : Nat} {a : α} (h : l[i]? = some a) : l.set i a = l := by
  obtain ⟨h1, h2⟩ := List.getElem?_eq_some_iff.mp h
  subst h2
  exact List.set_getElem_self h1
/-- a slot gets back what it held -/
theorem SR.back {K : PySem.W.Frag} {mg : Str → Option Value} {C0 C : Cn} {F0 F H0 H : Hp} {σ0 σ : L2.St} {e0 env : En} {fp0 fp : Nat → List Addr} (S0 : SR K mg C0 F0 H0 σ0 e0 fp0) (s : Same F0 F) (S : SR K mg C F H σ env fp) {i : Nat} (hi : i < e0.length) (hp : (e0.getD i .no).plain) (o : Option V) (ho : σ0[i]? = some o) : ∃ fp', SR K mg C F H (σ.set i o) (env.set i (e0.getD i .no)) fp' := by
  have e1 : e0[i]? = some (e0.getD i .no) := by rw [List.getD_eq_getElem?_getD, List.getElem?_eq_getElem hi]; rfl
  have q := S0.sl i _ e1
  cases hs : e0.getD i .no with
  | no => exact ⟨_, S.forget i o⟩
  | sh d =>
    rw [hs] at q
    obtain ⟨_, v, b, c⟩ := q
    rw [ho] at b
    cases b
    exact ⟨_, S.setS (c.up s)⟩
  | ow _ => rw [hs] at hp; exact (show False from hp).elim
  | io _ => rw [hs] at hp; exact (show False from hp).elim
def unwipeS (σ σ0 : L2.St) : List Nat → L2.St
  | [] => σ
  | v :: vs => (unwipeS σ σ0 vs).set v ((σ0[v]?).getD none)
theorem unwipe_get {σ0 : L2.St} : ∀ {vs : List Nat} {σ : L2.St} (i : Nat), (∀ v ∈ vs, v < σ0.length) → σ.length = σ0.length → (∀ j, j ∉ vs → σ[j]? = σ0[j]?) → (unwipeS σ σ0 vs)[i]? = σ0[i]?
  | [], σ, i, _, _, h => h i (by simp)
  | v :: vs, σ, i, hv, hl, h => by
    have len : ∀ vs : List Nat, (unwipeS σ σ0 vs).length = σ.length := fun vs => by
      induction vs with
      | nil => rfl
      | cons w ws ih => show ((unwipeS σ σ0 ws).set w _).length = _; rw [List.length_set, ih]
    show ((unwipeS σ σ0 vs).set v ((σ0[v]?).getD none))[i]? = σ0[i]?
    by_cases e : v = i
    · subst e
      have hlt := hv v (by simp)
      rw [List.getElem?_set_self (by rw [len, hl]; exact hlt), List.getElem?_eq_getElem hlt]
      rfl
    · rw [List.getElem?_set_ne e]
      -- the rest: by parts
      have aux : ∀ (ws : List Nat), (unwipeS σ σ0 ws)[i]? = if i ∈ ws ∧ i < σ.length then some ((σ0[i]?).getD none) else σ[i]? := fun ws => by
        induction ws with
        | nil => rw [if_neg (by simp)]; rfl
        | cons w ws ih =>
          show ((unwipeS σ σ0 ws).set w ((σ0[w]?).getD none))[i]? = _
          by_cases ew : w = i
          · subst ew
            by_cases hlt : w < σ.length
            · rw [List.getElem?_set_self (by rw [len]; exact hlt), if_pos ⟨by simp, hlt⟩]
            · rw [List.getElem?_eq_none (by rw [List.length_set, len]; omega), if_neg (fun z => hlt z.2), List.getElem?_eq_none (by omega)]
          · rw [List.getElem?_set_ne ew, ih]
            have : i ∈ w :: ws ↔ i ∈ ws := by simp [Ne.symm ew]
            simp only [this]
      rw [aux vs]
      by_cases hi : i ∈ vs
      · have hlt := hv i (List.mem_cons_of_mem _ hi)
        rw [if_pos ⟨hi, by rw [hl]; exact hlt⟩, List.getElem?_eq_getElem hlt]
        rfl
      · rw [if_neg (fun z => hi z.1)]
        exact h i (by simp only [List.mem_cons, not_or]; exact ⟨Ne.symm e, hi⟩)
theorem unwipe_all {σ0 : L2.St} {vs : List Nat} (hv : ∀ v ∈ vs, v < σ0.length) : unwipeS (wipe σ0 vs) σ0 vs = σ0 := by
  apply List.ext_getElem?
  intro i
  exact unwipe_get i hv (wipe_length σ0 vs) fun j hj => wipe_out hj
theorem SR.unwiped {K : PySem.W.Frag} {mg : Str → Option Value} {C0 C : Cn} {F0 F H0 H : Hp} {σ0 σ : L2.St} {e0 env : En} {fp0 fp : Nat → List Addr} (S0 : SR K mg C0 F0 H0 σ0 e0 fp0) (s : Same F0 F) (S : SR K mg C F H σ env fp) : ∀ vs : List Nat, (∀ v ∈ vs, v < e0.length ∧ (e0.getD v .no).plain) →
    ∃ fp', SR K mg C F H (unwipeS σ σ0 vs) (unwipe env e0 vs) fp'
  | [], _ => ⟨fp, S⟩
  | v :: vs, h => by
    obtain ⟨fp', S'⟩ := S0.unwiped s S vs fun w hw => h w (List.mem_cons_of_mem _ hw)
    obtain ⟨h1, h2⟩ := h v (by simp)
    have hl : v < σ0.length := by rw [S0.ln]; exact h1
    exact S0.back s S' h1 h2 _ (by rw [List.getElem?_eq_getElem hl]; rfl)
/-- the list that is made, while the element is reckoned -/
def Cn.and (C : Cn) (t : Addr × HO) : Cn := { C with T := t :: C.T }
theorem SR.hide {K : PySem.W.Frag} {mg : Str → Option Value} {C : Cn} {F H : Hp} {σ : L2.St} {env : En} {fp : Nat → List Addr} (S : SR K mg C F H σ env fp) {q : Addr} {o : HO} (h : H q = some o) (h1 : F q = none) (h2 : C.B q = none) (h3 : ∀ i, q ∉ fp i) : SR K mg (C.and (q, o)) F H σ env fp where
  f0 := S.f0
  fh := S.fh
  bh := S.bh
  fn := S.fn
  ln := S.ln
  sl := fun i s e => by
    have := S.sl i s e
    cases s <;> exact this
  sep := S.sep
  out := fun i x hx => by
    obtain ⟨a, b, c⟩ := S.out i x hx
    refine ⟨a, b, fun t ht => ?_⟩
    rcases List.mem_cons.mp ht with rfl | ht
    · exact fun z => h3 i (by rw [show q = x from z]; exact hx)
    · exact c t ht
  iof := S.iof
  tm := fun t ht => by
    rcases List.mem_cons.mp ht with rfl | ht
    · exact ⟨h1, h2, h⟩
    · exact S.tm t ht
theorem SR.seek {K : PySem.W.Frag} {mg : Str → Option Value} {C : Cn} {F H : Hp} {σ : L2.St} {env : En} {fp : Nat → List Addr} {q : Addr} {o : HO} (S : SR K mg (C.and (q, o)) F H σ env fp) : SR K mg C F H σ env fp ∧ H q = some o ∧ F q = none ∧ C.B q = none ∧ (∀ i, q ∉ fp i) := by
  obtain ⟨a, b, c⟩ := S.tm (q, o) List.mem_cons_self
  refine ⟨⟨S.f0, S.fh, S.bh, S.fn, S.ln, fun i s e => ?_, S.sep, fun i x hx => ?_, S.iof, fun t ht => S.tm t (List.mem_cons_of_mem _ ht)⟩, c, a, b, fun i hx => (S.out i q hx).2.2 (q, o) List.mem_cons_self rfl⟩
  · have := S.sl i s e
    cases s <;> exact this
  · obtain ⟨a, b, c⟩ := S.out i x hx
    exact ⟨a, b, fun t ht => c t (List.mem_cons_of_mem _ ht)⟩
/-- an object that nothing speaks of is changed -/
theorem SR.other {K : PySem.W.Frag} {mg : Str → Option Value} {C : Cn} {F H : Hp} {σ : L2.St} {env : En} {fp : Nat → List Addr} (S : SR K mg C F H σ env fp) {q : Addr} {o : HO} (h1 : F q = none) (h2 : C.B q = none) (h3 : ∀ i, q ∉ fp i) (h4 : ∀ t ∈ C.T, t.1 ≠ q) : SR K mg C F (upd H q o) σ env fp where
  f0 := S.f0
  fh := fun a u e => by rw [upd_ne (ne_of_none e h1)]; exact S.fh a u e
  bh := fun a u n e => by rw [upd_ne (ne_of_none e h2)]; exact S.bh a u n e
  fn := S.fn
  ln := S.ln
  sl := fun i s e => (S.sl i s e).mono (Same.refl F) fun x hx => upd_ne fun z => h3 i (z ▸ hx)
  sep := S.sep
  out := fun i x hx => by
    obtain ⟨a, b, c⟩ := S.out i x hx
    have hx' : x ≠ q := fun z => h3 i (by rw [← z]; exact hx)
    exact ⟨a, by rw [upd_ne hx']; exact b, c⟩
  iof := fun x hx => by
    obtain ⟨a, b, c⟩ := S.iof x hx
    have hx' : x ≠ q := fun z => b (by rw [z]; exact h2)
    exact ⟨a, b, by rw [upd_ne hx']; exact c⟩
  tm := fun t ht => by
    obtain ⟨a, b, c⟩ := S.tm t ht
    exact ⟨a, b, by rw [upd_ne (h4 t ht)]; exact c⟩
theorem wipe_get (σ : L2.St) (j : Nat) : ∀ vs : List Nat, (wipe σ vs)[j]? = if j ∈ vs ∧ j < σ.length then some none else σ[j]?
  | [] => by rw [if_neg (by simp)]; rfl
  | v :: vs => by
    show ((wipe σ vs).set v none)[j]? = _
    by_cases e : v = j
    · subst e
      by_cases hlt : v < σ.length
      · rw [List.getElem?_set_self (by rw [wipe_length]; exact hlt), if_pos ⟨by simp, hlt⟩]
      · rw [List.getElem?_eq_none (by rw [List.length_set, wipe_length]; omega), if_neg (fun z => hlt z.2), List.getElem?_eq_none (by omega)]
    · rw [List.getElem?_set_ne e, wipe_get σ j vs]
      have : j ∈ v :: vs ↔ j ∈ vs := by simp [Ne.symm e]
      simp only [this]
theorem wipe_set {σ : L2.St} {i : Nat} {o : Option V} {vs : List Nat} (h : i ∈ vs) : wipe (σ.set i o) vs = wipe σ vs := by
  apply List.ext_getElem?
  intro j
  rw [wipe_get, wipe_get, List.length_set]
  by_cases hj : j ∈ vs ∧ j < σ.length
  · rw [if_pos hj, if_pos hj]
  · rw [if_neg hj, if_neg hj]
    by_cases e : i = j
    · subst e
      have : ¬ i < σ.length := fun z => hj ⟨h, z⟩
      rw [List.getElem?_eq_none (by rw [List.length_set]; omega), List.getElem?_eq_none (by omega)]
    · rw [List.getElem?_set_ne e]
theorem wipe_wipe {σ : L2.St} {vs : List Nat} : wipe (wipe σ vs) vs = wipe σ vs := by
  apply List.ext_getElem?
  intro j
  rw [wipe_get, wipe_length]
  by_cases hj : j ∈ vs ∧ j < σ.length
  · rw [if_pos hj, wipe_get, if_pos hj]
  · rw [if_neg hj]
/-- a comprehension's target: a name, two names, three names -/
inductive CT where
  | one (i : Nat) | two (i j : Nat) | three (i j k : Nat)
def CT.run : CT → D → En → (En → Prop) → Prop
  | .one i, x, e, k => k (e.set i (.sh x))
  | .two i j, .tup [x, y], e, k => k ((e.set i (.sh x)).set j (.sh y))
  | .three i j l, .tup [x, y, z], e, k => k (((e.set i (.sh x)).set j (.sh y)).set l (.sh z))
  | _, _, _, _ => False
def CT.g (K : PySem.W.Frag) : CT → TG
  | .one i => gName i
  | .two i j => gTup K 2 (gCons (gName i) (gCons (gName j) gNil))
  | .three i j k => gTup K 3 (gCons (gName i) (gCons (gName j) (gCons (gName k) gNil)))
def CT.inV : CT → List Nat → Prop
  | .one i, vs => i ∈ vs
  | .two i j, vs => i ∈ vs ∧ j ∈ vs
  | .three i j k, vs => i ∈ vs ∧ j ∈ vs ∧ k ∈ vs
theorem ct_ok {C : Cn} {F H : Hp} {σ : L2.St} {env : En} {fp : Nat → List Addr} {v : V} {x : D} (S : SR X.K X.mg C F H σ env fp) (r : Rep X.K X.mg F v x) : ∀ {t : CT} {vs : List Nat} {k : En → Prop}, t.inV vs → t.run x env k →
    t.g X.K v σ H fun σ2 H2 => wipe σ2 vs = wipe σ vs ∧ H2 = H ∧ ∃ fp2 e2, SR X.K X.mg C F H σ2 e2 fp2 ∧ k e2
  | .one i, vs, k, hv, q => ⟨wipe_set hv, rfl, _, _, S.setS r, q⟩
  | .two i j, vs, k, hv, q => by
    cases r with
    | tup h1 h2 =>
      cases h2 with
      | nil => exact (show False from q).elim
      | cons r1 h2 =>
        cases h2 with
        | nil => exact (show False from q).elim
        | cons r2 h2 =>
          cases h2 with
          | nil => exact ⟨_, _, rfl, same_t S.fh h1, rfl, _, _, rfl, _, _, rfl, rfl, by rw [wipe_set hv.2, wipe_set hv.1], rfl, _, _, (S.setS r1).setS r2, q⟩
          | cons _ _ => exact (show False from q).elim
    | _ => exact (show False from q).elim
  | .three i j l, vs, k, hv, q => by
    cases r with
    | tup h1 h2 =>
      cases h2 with
      | nil => exact (show False from q).elim
      | cons r1 h2 =>
        cases h2 with
        | nil => exact (show False from q).elim
        | cons r2 h2 =>
          cases h2 with
          | nil => exact (show False from q).elim
          | cons r3 h2 =>
            cases h2 with
            | nil => exact ⟨_, _, rfl, same_t S.fh h1, rfl, _, _, rfl, _, _, rfl, _, _, rfl, rfl, by rw [wipe_set hv.2.2, wipe_set hv.2.1, wipe_set hv.1], rfl, _, _, ((S.setS r1).setS r2).setS r3, q⟩
            | cons _ _ => exact (show False from q).elim
    | _ => exact (show False from q).elim
def eLc (di : DI) (g : CT) (c : DT) (e : DE) (vs : List Nat) : DE where
  run env Q := di.run env fun items e0 => (∀ v ∈ vs, v < e0.length ∧ (e0.getD v .no).plain) ∧ ∃ W : Nat → List D → En → Prop, W 0 [] (wipeE e0 vs) ∧
    (∀ k x out e1, items[k]? = some x → W k out e1 → g.run x e1 fun e2 => c.run e2 fun b e3 => if b = true then e.run e3 fun r e4 => dat e4 r fun d e5 => out.length < 1000000 ∧ W (k + 1) (out ++ [d]) (wipeE e5 vs) else W (k + 1) out (wipeE e3 vs)) ∧
    ∀ out e1, W items.length out e1 → Q (.fr out) (unwipe e1 e0 vs)
  mono env Q Q' h q := by
    refine di.mono _ _ _ (fun items e0 q => ?_) q
    obtain ⟨q0, W, w0, hs, hd⟩ := q
    exact ⟨q0, W, w0, hs, fun out e1 w => h _ _ (hd out e1 w)⟩
theorem tg_mono {K : PySem.W.Frag} {v : V} {σ : L2.St} {H : Hp} {Q Q' : L2.St → Hp → Prop} (h : ∀ σ H, Q σ H → Q' σ H) : ∀ t : CT, t.g K v σ H Q → t.g K v σ H Q'
  | .one _, q => h _ _ q
  | .two _ _, ⟨a, b, c, d, e, f1, f2, f3, g1, g2, g3, k1, k2⟩ => ⟨a, b, c, d, e, f1, f2, f3, g1, g2, g3, k1, h _ _ k2⟩
  | .three _ _ _, ⟨a, b, c, d, e, f1, f2, f3, g1, g2, g3, k1, k2, k3, l1, l2⟩ => ⟨a, b, c, d, e, f1, f2, f3, g1, g2, g3, k1, k2, k3, l1, h _ _ l2⟩
theorem lc_down {di : DI} {g : CT} {tc : DT} {vs : List Nat} (hin : g.inV vs) {σ : L2.St} {H : Hp} {Q : VK} (q : LE X (eLc di g tc te vs) σ H Q) : tLc (LI X di) (g.g X.K) (LT X tc) (LE X te) vs σ H Q := by
  obtain ⟨C, F, env, fp, S, q⟩ := q
  refine ⟨C, F, env, fp, S, di.mono _ _ _ (fun items e0 q F0 H0 fp0 J S0 s0 jk => ?_) q⟩
  obtain ⟨q0, W, w0, hs, hd⟩ := q
  intro q hq
  obtain ⟨f1, f2, f3, f4, f5⟩ := S0.fresh hq
  refine ⟨fun k m H => m = items.length - k ∧ k ≤ items.length ∧ ∃ F1 e1 fp1 out ws, SR X.K X.mg C F1 H (wipe σ vs) e1 fp1 ∧ Same F0 F1 ∧ W k out e1 ∧ H q = some (.lst ws) ∧ Reps X.K X.mg F1 ws out ∧ F1 q = none ∧ ∀ i, q ∉ fp1 i, ?_, ?_⟩
  · have S1 : SR X.K X.mg (C.and (q, .lst [])) F0 (upd H0 q (.lst [])) σ e0 fp0 := (S0.more (.lst []) hq).hide upd_same f1 f2 f4
    obtain ⟨fp1, S2⟩ := S1.wiped vs
    obtain ⟨S3, h1, h2, _, h3⟩ := S2.seek
    exact ⟨_, rfl, Nat.zero_le _, F0, _, fp1, [], [], S3, Same.refl F0, w0, h1, .nil, h2, h3⟩
  · rintro k m H ⟨rfl, hk, F1, e1, fp1, out, ws, S1, s1, w, hH, hr, hF, hfp⟩
    have Sh : SR X.K X.mg (C.and (q, .lst ws)) F1 H (wipe σ vs) e1 fp1 := S1.hide hH hF f2 hfp
    obtain ⟨j1, j2⟩ := jk _ k F1 H _ e1 fp1 Sh s1
    by_cases hlt : k < items.length
    · refine .inr ?_
      obtain ⟨g1, g2⟩ := j1 items[k] (List.getElem?_eq_getElem hlt)
      refine ⟨g1, fun H => k + 1 ≤ items.length ∧ ∃ F1 e1 fp1 out ws, SR X.K X.mg C F1 H (wipe σ vs) e1 fp1 ∧ Same F0 F1 ∧ W (k + 1) out e1 ∧ H q = some (.lst ws) ∧ Reps X.K X.mg F1 ws out ∧ F1 q = none ∧ ∀ i, q ∉ fp1 i, fun H' n => ⟨items.length - (k + 1), by omega, rfl, n⟩, fun x H' y => ?_⟩
      obtain ⟨F2, S2, s2, r2⟩ := g2 x H' y
      refine tg_mono (fun σ2 H2 z => ?_) g (ct_ok S2 r2 hin (hs k _ out e1 (List.getElem?_eq_getElem hlt) w))
      obtain ⟨zw, rfl, fp2, e2, S3, p⟩ := z
      rw [wipe_wipe] at zw
      refine ⟨zw, C.and (q, .lst ws), F2, e2, fp2, S3, tc.mono _ _ _ (fun b e3 p F4 H4 fp4 S4 s4 => ?_) p⟩
      cases b with
      | false =>
        obtain ⟨fp5, S5⟩ := S4.wiped vs
        rw [zw] at S5
        obtain ⟨S6, h1, h2, _, h3⟩ := S5.seek
        exact ⟨hlt, F4, _, fp5, out, ws, S6, (s1.trans s2).trans s4, p, h1, hr.up (s2.trans s4), h2, h3⟩
      | true =>
        refine ⟨C.and (q, .lst ws), F4, e3, fp4, S4, te.mono _ _ _ (fun r e4 p F5 H5 fp5 y S5 s5 r5 => ?_) p⟩
        obtain ⟨F6, e5, fp6, d, S6, s6, r6, pl, pw⟩ := dat_ok S5 r5 p
        obtain ⟨fp7, S7⟩ := S6.wiped vs
        rw [zw] at S7
        obtain ⟨S8, h1, h2, _, h3⟩ := S7.seek
        have hl : ws.length < sizeLine := by rw [hr.len]; exact Nat.lt_trans pl (by decide)
        exact ⟨ws, h1, hl, hlt, F6, _, fp7, out ++ [d], ws ++ [y], S8.other h2 f2 h3 f5, ((((s1.trans s2).trans s4).trans s5).trans s6), pw, upd_same, (hr.up (((s2.trans s4).trans s5).trans s6)).app (.cons r6 .nil), h2, h3⟩
    · have e : k = items.length := by omega
      subst e
      obtain ⟨fp2, S2⟩ := S0.unwiped s1 Sh vs q0
      rw [unwipe_all (fun v hv => by rw [S0.ln]; exact (q0 v hv).1)] at S2
      obtain ⟨S3, h1, h2, _, h3⟩ := S2.seek
      exact .inl ⟨j2 (Nat.le_refl _), hd out e1 w F1 H fp2 _ S3 (s0.trans s1) ⟨q, ws, rfl, h2, f2, h1, hr, h3, f5⟩⟩
section
variable {iter elt : Expr} {ifs : List Expr} {scope : Scope} {own : List (Str × Nat)} {di : DI} {g : CT} {tc : DT}
theorem de_lc (hc : X.calm = true) (hN : X.N.Nodup) (hi : PI X tg iter (LI X di)) (ok : BlkOk X.N X.env.scope scope own) (hin : g.inV (own.map (·.2)))
    (hg : ∀ (s : Shared) (H : Hp) (C : Addr) (cl : List (Str × Addr)) (fp : List Addr), PG (X.blk s H scope (compEnvC scope cl C X.env) fp) tg (g.g X.K)) (ht : ∀ (s : Shared) (H : Hp) (C : Addr) (cl : List (Str × Addr)) (fp : List Addr), PTs (X.blk s H scope (compEnvC scope cl C X.env) fp) ifs (LT X tc))
    (he : ∀ (s : Shared) (H : Hp) (C : Addr) (cl : List (Str × Addr)) (fp : List Addr), PE (X.blk s H scope (compEnvC scope cl C X.env) fp) elt (LE X te)) (hs : ∀ x, foldedSetIterable iter X.env x = pure x := by intro _; rfl) :
    PE X (.ListComp elt [⟨tg, iter, ifs, 0⟩] scope pos) (LE X (eLc di g tc te (own.map (·.2)))) :=
  pe_imp (pe_lc hc hN hi ok hg ht he hs) fun σ H Q q => lc_down hin q
/-- name = [..] on one line -/
theorem ds_setLc {i : Nat} {y : Str} {py spos : Pos} (hc : X.calm = true) (hN : X.N.Nodup) (hy : X.N[i]? = some y) (hyl : X.env.scope.names.lookup y = some .local)
    (hsw : swapsWith (.ListComp elt [⟨tg, iter, ifs, 0⟩] scope pos) (some (.Name y py)) spos.line X.env = pure true) (hi : PI X tg iter (LI X di)) (ok : BlkOk X.N X.env.scope scope own) (hin : g.inV (own.map (·.2)))
    (hg : ∀ (s : Shared) (H : Hp) (C : Addr) (cl : List (Str × Addr)) (fp : List Addr), PG (X.blk s H scope (compEnvC scope cl C X.env) fp) tg (g.g X.K)) (ht : ∀ (s : Shared) (H : Hp) (C : Addr) (cl : List (Str × Addr)) (fp : List Addr), PTs (X.blk s H scope (compEnvC scope cl C X.env) fp) ifs (LT X tc))
    (he : ∀ (s : Shared) (H : Hp) (C : Addr) (cl : List (Str × Addr)) (fp : List Addr), PE (X.blk s H scope (compEnvC scope cl C X.env) fp) elt (LE X te)) (hs : ∀ x, foldedSetIterable iter X.env x = pure x := by intro _; rfl) :
    PS X (.Assign [.Name y py] (.ListComp elt [⟨tg, iter, ifs, 0⟩] scope pos) spos) (LS X (sSet i (eLc di g tc te (own.map (·.2))))) := by
  exact ps_imp (ps_setLc hc hN hy hyl hsw hi ok hg ht he hs) fun D σ H q => lc_down (Q := fun x H1 => gName i x σ H1 D.nx) hin (set_down q)
theorem ds_ownLc {i : Nat} {y : Str} {py spos : Pos} (hc : X.calm = true) (hN : X.N.Nodup) (hy : X.N[i]? = some y) (hyl : X.env.scope.names.lookup y = some .local)
    (hsw : swapsWith (.ListComp elt [⟨tg, iter, ifs, 0⟩] scope pos) (some (.Name y py)) spos.line X.env = pure true) (hi : PI X tg iter (LI X di)) (ok : BlkOk X.N X.env.scope scope own) (hin : g.inV (own.map (·.2)))
    (hg : ∀ (s : Shared) (H : Hp) (C : Addr) (cl : List (Str × Addr)) (fp : List Addr), PG (X.blk s H scope (compEnvC scope cl C X.env) fp) tg (g.g X.K)) (ht : ∀ (s : Shared) (H : Hp) (C : Addr) (cl : List (Str × Addr)) (fp : List Addr), PTs (X.blk s H scope (compEnvC scope cl C X.env) fp) ifs (LT X tc))
    (he : ∀ (s : Shared) (H : Hp) (C : Addr) (cl : List (Str × Addr)) (fp : List Addr), PE (X.blk s H scope (compEnvC scope cl C X.env) fp) elt (LE X te)) (hs : ∀ x, foldedSetIterable iter X.env x = pure x := by intro _; rfl) :
    PS X (.Assign [.Name y py] (.ListComp elt [⟨tg, iter, ifs, 0⟩] scope pos) spos) (LS X (sOwn i (eLc di g tc te (own.map (·.2))))) := by
  exact ps_imp (ps_setLc hc hN hy hyl hsw hi ok hg ht he hs) fun D σ H q => lc_down (Q := fun x H1 => gName i x σ H1 D.nx) hin (own_down q)
end
end
end Dn

set_option Elab.async false
set_option linter.all false
set_option maxRecDepth 100000
set_option maxHeartbeats 4000000
/-! Dn, part 8: methods of lists, defs. -/
namespace Dn
open PySem PySem.Spec PyProof.Rows L2
section
variable {X : Cx} {o e a b c : Expr} {te ta tb : DE} {tr : DA} {pos apos cpos : Pos} {j : Nat}

/-- xs.append(e) -/
def eApp (j : Nat) (e : DE) : DE where
  run env Q := (ownAt env j).isSome = true ∧ e.run env fun r e1 => dat e1 r fun d e2 => match ownAt e2 j with
    | some xs => xs.length < 1000000 ∧ Q (.sh .non) (putAt e2 j (xs ++ [d]))
    | none => False
  mono env Q Q' h q := by
    refine ⟨q.1, e.mono _ _ _ (fun r e1 q => dat_mono (fun d e2 q => ?_) q) q.2⟩
    split at q
    · exact ⟨q.1, h _ _ q.2⟩
    · exact q.elim
theorem sr_own {K : PySem.W.Frag} {mg : Str → Option Value} {C : Cn} {F H : Hp} {σ : L2.St} {env : En} {fp : Nat → List Addr} (S : SR K mg C F H σ env fp) {i : Nat} {xs : List D} (h : ownAt env i = some xs) : ∃ p vs, σ[i]? = some (some (.ref p)) ∧ H p = some (.lst vs) ∧ Reps K mg F vs xs ∧
    ∀ ws ys, Reps K mg F ws ys → SR K mg C F (upd H p (.lst ws)) σ (putAt env i ys) fp := by
  obtain ⟨s, a, b, c⟩ := ownAt_sl h
  obtain ⟨p, vs, _, hp, d, r⟩ := S.ownAt a b
  exact ⟨p, vs, hp, d, r, fun ws ys q => by rw [c]; exact S.write a b hp q⟩
theorem de_app (ho : PE X o (tVar j)) (ha : PE X e (LE X te))
    (hbase : attributeBase o "append" X.env (eval o X.env) = eval o X.env := by rfl)
    (hfew : ((backTo cpos (starEach [e] X.env)).all (fun x => !x.1) && (backToKw cpos (keywordEach [] X.env)).all (fun x => x.1.isSome)
      && decide (([e] : List Expr).length + ([] : List Keyword).length + (if ([] : List Keyword).isEmpty then 0 else 1) < 30)) = true := by rfl)
    (hline : (apos.endLine == cpos.line) = true := by rfl) (hs : starEach [e] X.env = (false, eval e X.env) :: starEach [] X.env := by rfl) (hplain : (backTo cpos (starEach [] X.env)).any (·.1) = false := by rfl) :
    PE X (.Call (.Attribute o "append" apos) [e] [] cpos) (LE X (eApp j te)) := by
  refine pe_imp (pe_bm PySem.F.plainAttrs_list PySem.F.slot_list_append PySem.F.type_list_append mt_append ho (pa_cons ha pa_nil hs) hbase hfew hline hs hplain) fun σ H Q q => ?_
  obtain ⟨C, F, env, fp, S, q0, q⟩ := q
  obtain ⟨xs0, h0⟩ := Option.isSome_iff_exists.mp q0
  obtain ⟨p, vs0, hp, d0, _⟩ := sr_own S h0
  refine ⟨.ref p, hp, .inl ⟨rfl, _, SqL.of d0⟩, C, F, env, fp, S, te.mono _ _ _ (fun r e1 q F1 H1 fp1 v S1 s1 r1 => ?_) q⟩
  obtain ⟨F2, e2, fp2, d, S2, s2, r2, q⟩ := dat_ok S1 r1 q
  split at q
  · rename_i xs hxs
    obtain ⟨p', ws, hp', d1, r3, wr⟩ := sr_own S2 hxs
    rw [hp] at hp'
    cases hp'
    exact ⟨p, ws, v, rfl, rfl, d1, by rw [r3.len]; exact Nat.lt_trans q.1 (by decide), q.2 F2 _ fp2 _ (wr _ _ (r3.app (.cons r2 .nil))) (s1.trans s2) .non⟩
  · exact q.elim
/-- xs.pop() -/
def ePop (j : Nat) : DE where
  run env Q := match ownAt env j with
    | some xs => (xs.getLast?).isSome = true ∧ Q (.sh (xs.getLast?.getD .non)) (putAt env j xs.dropLast)
    | none => False
  mono env Q Q' h q := by
    split at q
    · exact ⟨q.1, h _ _ q.2⟩
    · exact q.elim
theorem reps_last {K : PySem.W.Frag} {mg : Str → Option Value} {F : Hp} {vs : List V} {ds : List D} (r : Reps K mg F vs ds) (h : (ds.getLast?).isSome = true) : ∃ y, vs[vs.length - 1]? = some y ∧ Rep K mg F y (ds.getLast?.getD .non) ∧ Reps K mg F vs.dropLast ds.dropLast := by
  obtain ⟨d, hd⟩ := Option.isSome_iff_exists.mp h
  rw [List.getLast?_eq_getElem?] at hd
  obtain ⟨y, h1, h2⟩ := r.get hd
  rw [← r.len] at h1
  refine ⟨y, h1, by rw [List.getLast?_eq_getElem?, hd]; exact h2, ?_⟩
  rw [List.dropLast_eq_take, List.dropLast_eq_take, r.len]
  exact r.take _
theorem de_pop (ho : PE X o (tVar j)) (hbase : attributeBase o "pop" X.env (eval o X.env) = eval o X.env := by rfl) (hline : (apos.endLine == cpos.line) = true := by rfl) :
    PE X (.Call (.Attribute o "pop" apos) [] [] cpos) (LE X (ePop j)) := by
  refine pe_imp (pe_bm0 PySem.F.plainAttrs_list PySem.F.slot_list_pop PySem.F.type_list_pop mt_pop ho hbase hline) fun σ H Q q => ?_
  obtain ⟨C, F, env, fp, S, q⟩ := q
  have q : (match ownAt env j with
    | some xs => (xs.getLast?).isSome = true ∧ EPost X C F σ Q (.sh (xs.getLast?.getD .non)) (putAt env j xs.dropLast)
    | none => False) := q
  split at q
  · rename_i xs hxs
    obtain ⟨p, vs, hp, d, r, wr⟩ := sr_own S hxs
    obtain ⟨y, h1, h2, h3⟩ := reps_last r q.1
    exact ⟨.ref p, hp, .inl ⟨rfl, _, SqL.of d⟩, p, vs, y, rfl, rfl, d, h1, q.2 F _ fp y (wr _ _ h3) (Same.refl F) h2⟩
  · exact q.elim
/-- xs.pop(k) -/
def ePopAt (j : Nat) (k : DE) : DE where
  run env Q := (ownAt env j).isSome = true ∧ k.run env fun r e1 => match r, ownAt e1 j with
    | .sh (.int i), some xs => Sm i ∧ ∃ n, seqIndex? i xs.length = some n ∧ (xs[n]?).isSome = true ∧ Q (.sh (xs[n]?.getD .non)) (putAt e1 j (xs.eraseIdx n))
    | _, _ => False
  mono env Q Q' h q := by
    refine ⟨q.1, k.mono _ _ _ (fun r e1 q => ?_) q.2⟩
    split at q
    · obtain ⟨q1, n, q2, q3, q4⟩ := q
      exact ⟨q1, n, q2, q3, h _ _ q4⟩
    · exact q.elim
theorem Reps.erase {K : PySem.W.Frag} {mg : Str → Option Value} {F : Hp} : ∀ {vs : List V} {ds : List D} (i : Nat), Reps K mg F vs ds → Reps K mg F (vs.eraseIdx i) (ds.eraseIdx i)
  | _, _, _, .nil => .nil
  | _, _, 0, .cons _ t => t
  | _, _, i + 1, .cons q t => .cons q (t.erase i)
theorem de_popAt (ho : PE X o (tVar j)) (ha : PE X e (LE X te))
    (hbase : attributeBase o "pop" X.env (eval o X.env) = eval o X.env := by rfl)
    (hfew : ((backTo cpos (starEach [e] X.env)).all (fun x => !x.1) && (backToKw cpos (keywordEach [] X.env)).all (fun x => x.1.isSome)
      && decide (([e] : List Expr).length + ([] : List Keyword).length + (if ([] : List Keyword).isEmpty then 0 else 1) < 30)) = true := by rfl)
    (hline : (apos.endLine == cpos.line) = true := by rfl) (hs : starEach [e] X.env = (false, eval e X.env) :: starEach [] X.env := by rfl) (hplain : (backTo cpos (starEach [] X.env)).any (·.1) = false := by rfl) :
    PE X (.Call (.Attribute o "pop" apos) [e] [] cpos) (LE X (ePopAt j te)) := by
  refine pe_imp (pe_bm PySem.F.plainAttrs_list PySem.F.slot_list_pop PySem.F.type_list_pop mt_popAt ho (pa_cons ha pa_nil hs) hbase hfew hline hs hplain) fun σ H Q q => ?_
  obtain ⟨C, F, env, fp, S, q0, q⟩ := q
  obtain ⟨xs0, h0⟩ := Option.isSome_iff_exists.mp q0
  obtain ⟨p, vs0, hp, d0, _⟩ := sr_own S h0
  refine ⟨.ref p, hp, .inl ⟨rfl, _, SqL.of d0⟩, C, F, env, fp, S, te.mono _ _ _ (fun r e1 q F1 H1 fp1 v S1 s1 r1 => ?_) q⟩
  split at q
  · rename_i i xs hxs
    cases r1
    obtain ⟨⟨b1, b2⟩, n, hn, hd, q⟩ := q
    obtain ⟨p', ws, hp', d1, r3, wr⟩ := sr_own S1 hxs
    rw [hp] at hp'
    cases hp'
    obtain ⟨d, hd⟩ := Option.isSome_iff_exists.mp hd
    obtain ⟨y, h1, h2⟩ := r3.get hd
    rw [hd] at q
    exact ⟨p, ws, i, n, y, rfl, rfl, d1, by omega, by omega, by rw [r3.len]; exact hn, h1, q F1 _ fp1 y (wr _ _ (r3.erase n)) s1 h2⟩
  · exact q.elim
/-- xs.extend(ys), ys a list -/
def eExt (j : Nat) (e : DE) : DE where
  run env Q := (ownAt env j).isSome = true ∧ e.run env fun r e1 => dat e1 r fun d e2 => match d, ownAt e2 j with
    | .lst ys, some xs => xs.length + ys.length ≤ 1000000 ∧ Q (.sh .non) (putAt e2 j (xs ++ ys))
    | _, _ => False
  mono env Q Q' h q := by
    refine ⟨q.1, e.mono _ _ _ (fun r e1 q => dat_mono (fun d e2 q => ?_) q) q.2⟩
    split at q
    · exact ⟨q.1, h _ _ q.2⟩
    · exact q.elim
theorem de_ext (ho : PE X o (tVar j)) (ha : PE X e (LE X te))
    (hbase : attributeBase o "extend" X.env (eval o X.env) = eval o X.env := by rfl)
    (hfew : ((backTo cpos (starEach [e] X.env)).all (fun x => !x.1) && (backToKw cpos (keywordEach [] X.env)).all (fun x => x.1.isSome)
      && decide (([e] : List Expr).length + ([] : List Keyword).length + (if ([] : List Keyword).isEmpty then 0 else 1) < 30)) = true := by rfl)
    (hline : (apos.endLine == cpos.line) = true := by rfl) (hs : starEach [e] X.env = (false, eval e X.env) :: starEach [] X.env := by rfl) (hplain : (backTo cpos (starEach [] X.env)).any (·.1) = false := by rfl) :
    PE X (.Call (.Attribute o "extend" apos) [e] [] cpos) (LE X (eExt j te)) := by
  refine pe_imp (pe_bm PySem.F.plainAttrs_list PySem.F.slot_list_extend PySem.F.type_list_extend mt_extend ho (pa_cons ha pa_nil hs) hbase hfew hline hs hplain) fun σ H Q q => ?_
  obtain ⟨C, F, env, fp, S, q0, q⟩ := q
  obtain ⟨xs0, h0⟩ := Option.isSome_iff_exists.mp q0
  obtain ⟨p, vs0, hp, d0, _⟩ := sr_own S h0
  refine ⟨.ref p, hp, .inl ⟨rfl, _, SqL.of d0⟩, C, F, env, fp, S, te.mono _ _ _ (fun r e1 q F1 H1 fp1 v S1 s1 r1 => ?_) q⟩
  obtain ⟨F2, e2, fp2, d, S2, s2, r2, q⟩ := dat_ok S1 r1 q
  split at q
  · rename_i ys xs hxs
    obtain ⟨p', ws, hp', d1, r3, wr⟩ := sr_own S2 hxs
    rw [hp] at hp'
    cases hp'
    cases r2 with
    | lst h1 h2 =>
      exact ⟨p, _, ws, _, rfl, rfl, d1, S2.fh _ _ h1, lim_line (by rw [r3.len, h2.len]; exact q.1), q.2 F2 _ fp2 _ (wr _ _ (r3.app h2)) (s1.trans s2) .non⟩
  · exact q.elim
/-- xs.reverse() -/
def eRev (j : Nat) : DE where
  run env Q := match ownAt env j with
    | some xs => Q (.sh .non) (putAt env j xs.reverse)
    | none => False
  mono env Q Q' h q := by
    split at q
    · exact h _ _ q
    · exact q.elim
theorem de_rev (ho : PE X o (tVar j)) (hbase : attributeBase o "reverse" X.env (eval o X.env) = eval o X.env := by rfl) (hline : (apos.endLine == cpos.line) = true := by rfl) :
    PE X (.Call (.Attribute o "reverse" apos) [] [] cpos) (LE X (eRev j)) := by
  refine pe_imp (pe_bm0 PySem.F.plainAttrs_list PySem.F.slot_list_reverse PySem.F.type_list_reverse mt_reverse ho hbase hline) fun σ H Q q => ?_
  obtain ⟨C, F, env, fp, S, q⟩ := q
  have q : (match ownAt env j with
    | some xs => EPost X C F σ Q (.sh .non) (putAt env j xs.reverse)
    | none => False) := q
  split at q
  · rename_i xs hxs
    obtain ⟨p, vs, hp, d, r, wr⟩ := sr_own S hxs
    exact ⟨.ref p, hp, .inl ⟨rfl, _, SqL.of d⟩, p, vs, rfl, rfl, d, q F _ fp _ (wr _ _ r.rev) (Same.refl F) .non⟩
  · exact q.elim
end

/-! ### defs -/
def entry (n : Nat) (ds : List D) : En := ds.map Sl.sh ++ List.replicate (n - ds.length) Sl.no
def entryS (n : Nat) (xs ds : List D) : En := Sl.io xs :: (ds.map Sl.sh ++ List.replicate (n - 1 - ds.length) Sl.no)
def retE (post : Rv → Prop) : DEnds where
  nx _ := post (.sh .non)
  rt r _ := match r with
    | .bo _ => False
    | r => post r
  bk _ := False
  ct _ := False
def retS (post : Rv → List D → Prop) : DEnds where
  nx e := match (e : En)[0]? with
    | some (Sl.io ys) => post (.sh .non) ys
    | _ => False
  rt r e := match r with
    | .bo _ => False
    | r => match (e : En)[0]? with
      | some (Sl.io ys) => post r ys
      | _ => False
  bk _ := False
  ct _ := False
/-- the body's denotation keeps the promise -/
def Spec.Ok (s : Spec) (n : Nat) (d : DS) : Prop := ∀ x, s.pre x → d.run (retE (s.post x)) (entry n (s.args x))
def SpecS.Ok (s : SpecS) (n : Nat) (d : DS) : Prop := ∀ x, s.pre x → d.run (retS (s.post x)) (entryS n (s.st x) (s.args x))
theorem start_get {N : List Str} {vs : List V} {i : Nat} {v : V} (h : vs[i]? = some v) : (start N vs)[i]? = some (some v) := by
  unfold L2.start
  have hi : i < vs.length := (List.getElem?_eq_some_iff.mp h).1
  rw [List.getElem?_append_left (by simpa using hi), List.getElem?_map, h]
  rfl
section
variable {P : Program} {w : World} {K : PySem.W.Frag} {mg : Str → Option Value} {base : Heap}
theorem sr_entry {N : List Str} {F H : Hp} {vs : List V} {ds : List D} (fh : Same F H) (r : Reps K mg F vs ds) (hn : vs.length ≤ N.length) : SR K mg ⟨F, H, [], []⟩ F H (start N vs) (entry N.length ds) (fun _ => []) where
  f0 := Same.refl F
  fh := fh
  bh := fun a o _ e => e
  fn := fun a h => .inl h
  ln := by
    unfold L2.start entry
    rw [List.length_append, List.length_append, List.length_map, List.length_map, List.length_replicate, List.length_replicate, r.len]
  sl := fun i s e => by
    unfold entry at e
    by_cases hi : i < ds.length
    · rw [List.getElem?_append_left (by simpa using hi), List.getElem?_map, List.getElem?_eq_getElem hi] at e
      cases e
      obtain ⟨v, h1, h2⟩ := r.get (List.getElem?_eq_getElem hi)
      exact ⟨rfl, v, start_get h1, h2⟩
    · rw [List.getElem?_append_right (by simpa using hi), List.getElem?_replicate] at e
      split at e
      · cases e; rfl
      · cases e
  sep := fun i j p h => by cases h
  out := fun i p h => by cases h
  iof := fun p h => by cases h
  tm := fun t h => by cases h
theorem sr_entryS {N : List Str} {F H : Hp} {p : Addr} {ws vs : List V} {xs ds : List D} (fh : Same F H) (h1 : F p = none) (h2 : H p = some (.lst ws)) (h3 : Reps K mg F ws xs) (r : Reps K mg F vs ds) (hn : vs.length + 1 ≤ N.length) :
    SR K mg ⟨F, H, [p], []⟩ F H (start N (.ref p :: vs)) (entryS N.length xs ds) (fun i => if i = 0 then [p] else []) where
  f0 := Same.refl F
  fh := fh
  bh := fun a o _ e => e
  fn := fun a h => .inl h
  ln := by
    unfold L2.start entryS
    have e := r.len
    simp only [List.length_append, List.length_cons, List.length_map, List.length_replicate]
    omega
  sl := fun i s e => by
    unfold entryS at e
    cases i with
    | zero =>
      cases e
      exact ⟨p, ws, rfl, start_get rfl, by simp, h2, h3⟩
    | succ i =>
      rw [List.getElem?_cons_succ] at e
      have z : (if i + 1 = 0 then [p] else []) = ([] : List Addr) := rfl
      by_cases hi : i < ds.length
      · rw [List.getElem?_append_left (by simpa using hi), List.getElem?_map, List.getElem?_eq_getElem hi] at e
        cases e
        obtain ⟨v, a1, a2⟩ := r.get (List.getElem?_eq_getElem hi)
        exact ⟨z, v, start_get (by rw [List.getElem?_cons_succ]; exact a1), a2⟩
      · rw [List.getElem?_append_right (by simpa using hi), List.getElem?_replicate] at e
        split at e
        · cases e; exact z
        · cases e
  sep := fun i j q hi hj => by
    by_cases ei : i = 0
    · by_cases ej : j = 0
      · omega
      · rw [if_neg ej] at hj; cases hj
    · rw [if_neg ei] at hi; cases hi
  out := fun i q hi => by
    by_cases ei : i = 0
    · rw [if_pos ei] at hi
      have : q = p := by simpa using hi
      subst this
      exact ⟨h1, none_of_ne h2, fun t ht => by cases ht⟩
    · rw [if_neg ei] at hi; cases hi
  iof := fun q hq => by
    have : q = p := by simpa using hq
    subst this
    exact ⟨h1, none_of_ne h2, none_of_ne h2⟩
  tm := fun t h => by cases h
/-- THE RULE: a def of the text keeps its promise -/
theorem fn_ok {x qual : Str} {st : Stmt} {f : Addr} {fd : FuncData} {N ps : List Str} {k : Nat} {s : Spec} {d : DS} (Fn : Fun K x qual st f fd) (S : FnScope N ps (defScope st)) (hl : ∀ x, (s.args x).length = ps.length) (ok : s.Ok N.length d)
    (hbody : ∀ (cdv : Value) (A : Around) (outer : List Env) (s₀ : Shared) (H : Hp) (E : XK), Room k (A.deeper (envOfC qual (defScope st) s₀.heap.objs.size f cdv)) → PSs (cxOf CX0 P w K mg base N qual (defScope st) f cdv A outer s₀ H E).nox (defBody st) (LS (cxOf CX0 P w K mg base N qual (defScope st) f cdv A outer s₀ H E).nox d)) :
    FnOk P w K mg base CX0 (k + 1) f fd ps (spOf K mg s) := by
  have hlen : ∀ vs H Q E, spOf K mg s vs H Q E → vs.length = ps.length := fun vs H Q E h => by
    obtain ⟨F, ds, _, r, y, e, _⟩ := h
    rw [r.len, e]
    exact hl y
  have hN : ps.length ≤ N.length := by
    have := congrArg List.length S.pre
    rw [List.length_take] at this
    omega
  refine Fn.ok S hlen fun cdv A outer s₀ H vs Q E hr h => ⟨_, hbody cdv A outer s₀ H E hr, ?_⟩
  have hv := hlen vs H Q E h
  obtain ⟨F, ds, fh, r, y, rfl, hp, q⟩ := h
  refine ⟨_, F, _, _, sr_entry fh r (by omega), DS.to d (ok y hp) ⟨fun e p F' H' σ' fp' S' s' => ?_, fun rv e p F' H' σ' fp' v S' s' rr => ?_, fun e p => p.elim, fun e p => p.elim⟩⟩
  · exact q _ p F' H' .non (fun a o e => S'.bh a o (by simp) e) s' S'.fh S'.fn .non
  · cases rv with
    | bo i => exact (show False from p).elim
    | sh z => exact q _ p F' H' v (fun a o e => S'.bh a o (by simp) e) s' S'.fh S'.fn rr
    | fr z =>
      obtain ⟨p', us, rfl, a, b, c, d, _⟩ := rr
      exact q _ p F' H' _ (fun a o e => S'.bh a o (by simp) e) s' S'.fh S'.fn ⟨p', us, rfl, b, a, c, d⟩
theorem io_end {F0 H F' H' : Hp} {p : Addr} {σ : L2.St} {e : En} {fp : Nat → List Addr} {ys : List D} (S : SR K mg ⟨F0, H, [p], []⟩ F' H' σ e fp) (h : e[0]? = some (.io ys)) : ∃ ws, H' p = some (.lst ws) ∧ Reps K mg F' ws ys := by
  obtain ⟨q, ws, _, _, a, b, c⟩ := S.sl 0 _ h
  have : q = p := by simpa using a
  subst this
  exact ⟨ws, b, c⟩
theorem fn_okS {x qual : Str} {st : Stmt} {f : Addr} {fd : FuncData} {N ps : List Str} {k : Nat} {s : SpecS} {d : DS} (Fn : Fun K x qual st f fd) (S : FnScope N ps (defScope st)) (hl : ∀ x, (s.args x).length + 1 = ps.length) (ok : s.Ok N.length d)
    (hbody : ∀ (cdv : Value) (A : Around) (outer : List Env) (s₀ : Shared) (H : Hp) (E : XK), Room k (A.deeper (envOfC qual (defScope st) s₀.heap.objs.size f cdv)) → PSs (cxOf CX0 P w K mg base N qual (defScope st) f cdv A outer s₀ H E).nox (defBody st) (LS (cxOf CX0 P w K mg base N qual (defScope st) f cdv A outer s₀ H E).nox d)) :
    FnOk P w K mg base CX0 (k + 1) f fd ps (spOfS K mg s) := by
  have hlen : ∀ vs H Q E, spOfS K mg s vs H Q E → vs.length = ps.length := fun vs H Q E h => by
    obtain ⟨F, ds, p, us, ws, xs, e, _, _, _, _, r, y, _, e2, _⟩ := h
    rw [e, List.length_cons, r.len, e2]
    exact hl y
  have hN : ps.length ≤ N.length := by
    have := congrArg List.length S.pre
    rw [List.length_take] at this
    omega
  refine Fn.ok S hlen fun cdv A outer s₀ H vs Q E hr h => ⟨_, hbody cdv A outer s₀ H E hr, ?_⟩
  have hv := hlen vs H Q E h
  obtain ⟨F, ds, p, us, ws, xs, rfl, fh, f1, f2, f3, r, y, rfl, rfl, hp, q⟩ := h
  rw [List.length_cons] at hv
  refine ⟨_, F, _, _, sr_entryS fh f1 f2 f3 r (by omega), DS.to d (ok y hp) ⟨fun e z F' H' σ' fp' S' s' => ?_, fun rv e z F' H' σ' fp' v S' s' rr => ?_, fun e p => p.elim, fun e p => p.elim⟩⟩
  · have z : (match (e : En)[0]? with
      | some (Sl.io ys) => s.post y (.sh .non) ys
      | _ => False) := z
    split at z
    · rename_i ys hys
      obtain ⟨ws', h1, h2⟩ := io_end S' hys
      exact q _ _ z F' H' .non ws' (fun a o n e => S'.bh a o (by simpa using n) e) s' S'.fh S'.fn h1 h2 .non
    · exact z.elim
  · cases rv with
    | bo i => exact (show False from z).elim
    | sh d' =>
      have z : (match (e : En)[0]? with
        | some (Sl.io ys) => s.post y (.sh d') ys
        | _ => False) := z
      split at z
      · rename_i ys hys
        obtain ⟨ws', h1, h2⟩ := io_end S' hys
        exact q _ _ z F' H' v ws' (fun a o n e => S'.bh a o (by simpa using n) e) s' S'.fh S'.fn h1 h2 rr
      · exact z.elim
    | fr d' =>
      have z : (match (e : En)[0]? with
        | some (Sl.io ys) => s.post y (.fr d') ys
        | _ => False) := z
      split at z
      · rename_i ys hys
        obtain ⟨ws', h1, h2⟩ := io_end S' hys
        obtain ⟨p', us', rfl, a, b, c, d, _⟩ := rr
        exact q _ _ z F' H' _ ws' (fun a o n e => S'.bh a o (by simpa using n) e) s' S'.fh S'.fn h1 h2 ⟨p', us', rfl, b, a, c, d⟩
      · exact z.elim
/-- the law: for each script of at most 63 ints the answer is True -/
def lawSpec : Spec := ⟨List Int, fun ns => [.frz (ns.map D.int)], fun ns => ns.length ≤ 63, fun _ r => r = .sh (.bl true)⟩
def spLaw (K : PySem.W.Frag) : Sp := fun vs H Q _ => ∃ (a : Addr) (ns : List Int), vs = [.ref a] ∧ SqL K H a (ns.map V.int) ∧ ns.length ≤ 63 ∧ ∀ H', Q (.bl true) H'
theorem law_imp {vs : List V} {H : Hp} {Q : VK} {E : XK} (h : spLaw K vs H Q E) : spOf K mg lawSpec vs H Q E := by
  obtain ⟨a, ns, rfl, h1, h2, h3⟩ := h
  refine ⟨H, _, Same.refl H, .cons (.frz h1 (reps_ints ns)) .nil, ns, rfl, h2, fun r hr F' H' v _ _ _ _ rr => ?_⟩
  cases hr
  cases rr
  exact h3 H'
end
end Dn

set_option Elab.async false
set_option linter.all false
set_option maxRecDepth 100000
set_option maxHeartbeats 4000000
/-! Dn, part 9: how denotations run, for simp. -/
namespace Dn
open PySem PySem.Spec PyProof.Rows L2
/-- a place that simp leaves alone -/
structure Fx {α : Type} (a : α) : Type where
def Spec.Run (s : Spec) (ds : List D) (Q : Rv → Prop) (_ : Fx Q) : Prop := s.run ds Q
def SpecS.Run (s : SpecS) (xs ds : List D) (Q : Rv → List D → Prop) (_ : Fx Q) : Prop := s.run xs ds Q
def WhileF (c : DT) (b : DS) (D' : DEnds) (env : En) (_ : Fx D') : Prop := (sWhile c b).run D' env
def ForF (i : DI) (g : DG) (b : DS) (D' : DEnds) (env : En) (_ : Fx D') : Prop := (sFor i g b).run D' env
def LcF (i : DI) (g : CT) (c : DT) (e : DE) (vs : List Nat) (env : En) (Q : Rv → En → Prop) (_ : Fx Q) : Prop := (eLc i g c e vs).run env Q
/-- ends of a block's first statement, of a loop's turn -/
def DEnds.sq (D : DEnds) (f : En → Prop) : DEnds := { D with nx := f }
def DEnds.sqS (D : DEnds) (s : DS) : DEnds := { D with nx := fun e => s.run D e }
def DEnds.lp (D : DEnds) (f : En → Prop) : DEnds := { D with nx := f, ct := f, bk := D.nx }
@[simp] theorem sq_nx {D : DEnds} {f : En → Prop} : (D.sq f).nx = f := rfl
@[simp] theorem sq_rt {D : DEnds} {f : En → Prop} : (D.sq f).rt = D.rt := rfl
@[simp] theorem sq_bk {D : DEnds} {f : En → Prop} : (D.sq f).bk = D.bk := rfl
@[simp] theorem sq_ct {D : DEnds} {f : En → Prop} : (D.sq f).ct = D.ct := rfl
@[simp ↓] theorem sqS_nx {D : DEnds} {s : DS} {e : En} : (D.sqS s).nx e = s.run D e := rfl
@[simp] theorem sqS_rt {D : DEnds} {s : DS} : (D.sqS s).rt = D.rt := rfl
@[simp] theorem sqS_bk {D : DEnds} {s : DS} : (D.sqS s).bk = D.bk := rfl
@[simp] theorem sqS_ct {D : DEnds} {s : DS} : (D.sqS s).ct = D.ct := rfl
@[simp] theorem lp_nx {D : DEnds} {f : En → Prop} : (D.lp f).nx = f := rfl
@[simp] theorem lp_rt {D : DEnds} {f : En → Prop} : (D.lp f).rt = D.rt := rfl
@[simp] theorem lp_bk {D : DEnds} {f : En → Prop} : (D.lp f).bk = D.nx := rfl
@[simp] theorem lp_ct {D : DEnds} {f : En → Prop} : (D.lp f).ct = f := rfl
@[simp] theorem retE_nx {p : Rv → Prop} {e : En} : (retE p).nx e = p (.sh .non) := rfl
@[simp] theorem retE_rt {p : Rv → Prop} {d : D} {e : En} : (retE p).rt (.sh d) e = p (.sh d) := rfl
@[simp] theorem retE_rf {p : Rv → Prop} {d : List D} {e : En} : (retE p).rt (.fr d) e = p (.fr d) := rfl
@[simp] theorem retE_bk {p : Rv → Prop} {e : En} : (retE p).bk e = False := rfl
@[simp] theorem retE_ct {p : Rv → Prop} {e : En} : (retE p).ct e = False := rfl
@[simp] theorem retS_nx {p : Rv → List D → Prop} {ys : List D} {e : En} : (retS p).nx (.io ys :: e) = p (.sh .non) ys := rfl
@[simp] theorem retS_rt {p : Rv → List D → Prop} {d : D} {ys : List D} {e : En} : (retS p).rt (.sh d) (.io ys :: e) = p (.sh d) ys := rfl
@[simp] theorem retS_rf {p : Rv → List D → Prop} {d : List D} {ys : List D} {e : En} : (retS p).rt (.fr d) (.io ys :: e) = p (.fr d) ys := rfl
@[simp] theorem retS_bk {p : Rv → List D → Prop} {e : En} : (retS p).bk e = False := rfl
@[simp] theorem retS_ct {p : Rv → List D → Prop} {e : En} : (retS p).ct e = False := rfl
section
variable {env : En} {Q : Rv → En → Prop} {QT : Bool → En → Prop} {QA : List D → En → Prop} {QI : List D → En → Prop} {D' : DEnds} {a b c : DE} {t u : DT} {s s' : DS} {R R' : RO} {R1 : RO1} {i j : Nat}
@[simp ↓] theorem r_var : (eVar i).run env Q = (match env[i]? with
    | some (.sh d) => Q (.sh d) env
    | some (.ow _) => Q (.bo i) env
    | some (.io _) => Q (.bo i) env
    | _ => False) := rfl
@[simp ↓] theorem r_c {d : D} : (eC d).run env Q = Q (.sh d) env := rfl
@[simp ↓] theorem r_op : (eOp R a b).run env Q = a.run env fun x e1 => b.run e1 fun y e2 => match look e2 (holdR x), look e2 y with
    | some d, some e => (R d e).1 ∧ Q (R d e).2 e2
    | _, _ => False := rfl
@[simp ↓] theorem r_op1 : (eOp1 R1 a).run env Q = a.run env fun x e1 => match look e1 x with
    | some d => (R1 d).1 ∧ Q (R1 d).2 e1
    | none => False := rfl
@[simp ↓] theorem r_tB : (tB a).run env QT = a.run env fun r e => match r with
    | .sh (.bl b) => QT b e
    | _ => False := rfl
@[simp ↓] theorem r_tTru : (tTru a).run env QT = a.run env fun r e => match look e r with
    | some d => (truD d).1 ∧ QT (truD d).2 e
    | none => False := rfl
@[simp ↓] theorem r_tAnd : (tAnd t u).run env QT = t.run env fun c e1 => if c = true then u.run e1 QT else QT false e1 := rfl
@[simp ↓] theorem r_tOr : (tOr t u).run env QT = t.run env fun c e1 => if c = true then QT true e1 else u.run e1 QT := rfl
@[simp ↓] theorem r_tNot : (tNot t).run env QT = t.run env fun c e1 => QT (!c) e1 := rfl
@[simp ↓] theorem r_tYes : tYesD.run env QT = QT true env := rfl
@[simp ↓] theorem r_and : (eAnd a b).run env Q = a.run env fun r e1 => match r with
    | .sh (.bl c) => if c = true then b.run e1 Q else Q (.sh (.bl false)) e1
    | _ => False := rfl
@[simp ↓] theorem r_or : (eOr a b).run env Q = a.run env fun r e1 => match r with
    | .sh (.bl c) => if c = true then Q (.sh (.bl true)) e1 else b.run e1 Q
    | _ => False := rfl
@[simp ↓] theorem r_not : (eNot a).run env Q = a.run env fun r e1 => match r with
    | .sh (.bl c) => Q (.sh (.bl (!c))) e1
    | _ => False := rfl
@[simp ↓] theorem r_if : (eIf t a b).run env Q = t.run env fun c e1 => if c = true then a.run e1 Q else b.run e1 Q := rfl
@[simp ↓] theorem r_chain : (eChain R R' a b c).run env Q = a.run env fun x e1 => b.run e1 fun y e2 => match look e2 (holdR x), look e2 (holdR y) with
    | some d, some e => (R d e).1 ∧ match (R d e).2 with
      | .sh (.bl k) => if k = true then c.run e2 fun z e3 => match look e3 (holdR y), look e3 z with
          | some d, some e => (R' d e).1 ∧ Q (R' d e).2 e3
          | _, _ => False
        else Q (.sh (.bl false)) e2
      | _ => False
    | _, _ => False := rfl
@[simp ↓] theorem r_aNil : aNil.run env QA = QA [] env := rfl
@[simp ↓] theorem r_aCons {e : DE} {r : DA} : (aCons e r).run env QA = e.run env fun x e1 => dat e1 x fun d e2 => r.run e2 fun ds e3 => QA (d :: ds) e3 := rfl
@[simp ↓] theorem r_tup {r : DA} : (eTup r).run env Q = r.run env fun ds e1 => ds.length ≤ 1000000 ∧ Q (.sh (.tup ds)) e1 := rfl
@[simp ↓] theorem r_lst {r : DA} : (eLst r).run env Q = r.run env fun ds e1 => ds.length ≤ 1000000 ∧ Q (.fr ds) e1 := rfl
@[simp ↓] theorem r_oNone {QO : Option Int → En → Prop} : oNone.run env QO = QO none env := rfl
@[simp ↓] theorem r_oSome {QO : Option Int → En → Prop} : (oSome a).run env QO = a.run env fun r e => match r with
    | .sh (.int i) => QO (some i) e
    | _ => False := rfl
@[simp ↓] theorem r_sl {lo hi : DO} : (eSl a lo hi).run env Q = a.run env fun x e1 => lo.run e1 fun l e2 => hi.run e2 fun u e3 => match look e3 (holdR x) with
    | some d => (slR d l u).1 ∧ Q (slR d l u).2 e3
    | none => False := rfl
@[simp ↓] theorem r_call {sp : Spec} {r : DA} : (eCall sp r).run env Q = r.run env fun ds e1 => sp.Run ds (fun v => Q v e1) ⟨⟩ := rfl
@[simp ↓] theorem r_callS {sp : SpecS} {r : DA} : (eCallS sp i r).run env Q = ((ownAt env i).isSome = true ∧ r.run env fun ds e1 => match ownAt e1 i with
    | some xs => sp.Run xs ds (fun v ys => Q v (putAt e1 i ys)) ⟨⟩
    | none => False) := rfl
@[simp ↓] theorem r_app : (eApp j a).run env Q = ((ownAt env j).isSome = true ∧ a.run env fun r e1 => dat e1 r fun d e2 => match ownAt e2 j with
    | some xs => xs.length < 1000000 ∧ Q (.sh .non) (putAt e2 j (xs ++ [d]))
    | none => False) := rfl
@[simp ↓] theorem r_pop : (ePop j).run env Q = (match ownAt env j with
    | some xs => (xs.getLast?).isSome = true ∧ Q (.sh (xs.getLast?.getD .non)) (putAt env j xs.dropLast)
    | none => False) := rfl
@[simp ↓] theorem r_popAt : (ePopAt j a).run env Q = ((ownAt env j).isSome = true ∧ a.run env fun r e1 => match r, ownAt e1 j with
    | .sh (.int i), some xs => Sm i ∧ ∃ n, seqIndex? i xs.length = some n ∧ (xs[n]?).isSome = true ∧ Q (.sh (xs[n]?.getD .non)) (putAt e1 j (xs.eraseIdx n))
    | _, _ => False) := rfl
@[simp ↓] theorem r_ext : (eExt j a).run env Q = ((ownAt env j).isSome = true ∧ a.run env fun r e1 => dat e1 r fun d e2 => match d, ownAt e2 j with
    | .lst ys, some xs => xs.length + ys.length ≤ 1000000 ∧ Q (.sh .non) (putAt e2 j (xs ++ ys))
    | _, _ => False) := rfl
@[simp ↓] theorem r_rev : (eRev j).run env Q = (match ownAt env j with
    | some xs => Q (.sh .non) (putAt env j xs.reverse)
    | none => False) := rfl
@[simp ↓] theorem r_iSeq : (iSeq a).run env QI = a.run env fun r e1 => dat e1 r fun d e2 => match d with
    | .lst ds => QI ds e2
    | .tup ds => QI ds e2
    | .frz ds => QI ds e2
    | _ => False := rfl
@[simp ↓] theorem r_range1 {r : DA} : (iRange1 r).run env QI = r.run env fun ds e1 => match ds with
    | [.int j] => Sm j ∧ QI (rangeD 0 j.toNat) e1
    | _ => False := rfl
@[simp ↓] theorem r_range2 {r : DA} : (iRange2 r).run env QI = r.run env fun ds e1 => match ds with
    | [.int i, .int j] => Sm i ∧ Sm j ∧ QI (rangeD i (j - i).toNat) e1
    | _ => False := rfl
@[simp ↓] theorem r_range3 {r : DA} : (iRange3 r).run env QI = r.run env fun ds e1 => match ds with
    | [.int i, .int j, .int c] => ∃ n, RgC i j c n ∧ QI (rangeC i c n) e1
    | _ => False := rfl
@[simp ↓] theorem r_listArg {f : List D → List D} {r : DA} : (iListArg f r).run env QI = r.run env fun ds e1 => match ds with
    | [.lst xs] => QI (f xs) e1
    | [.frz xs] => QI (f xs) e1
    | _ => False := rfl
@[simp ↓] theorem r_zip {r : DA} : (iZipD r).run env QI = r.run env fun ds e1 => match ds with
    | [.lst xs, .lst ys] => QI (zipD xs ys) e1
    | _ => False := rfl
/-! statements -/
@[simp ↓] theorem r_next : sNext.run D' env = D'.nx env := rfl
@[simp ↓] theorem r_seq : (sSeq s s').run D' env = s.run (D'.sqS s') env := rfl
@[simp ↓] theorem r_brk : sBrk.run D' env = D'.bk env := rfl
@[simp ↓] theorem r_cont : sCont.run D' env = D'.ct env := rfl
@[simp ↓] theorem r_never : sNever.run D' env = False := rfl
@[simp ↓] theorem r_expr : (sExpr a).run D' env = a.run env fun _ e1 => D'.nx e1 := rfl
@[simp ↓] theorem r_ret : (sRet a).run D' env = a.run env fun r e1 => match r with
    | .sh d => D'.rt (.sh d) e1
    | .fr ds => D'.rt (.fr ds) e1
    | .bo i => match e1[i]? with
      | some (.ow xs) => D'.rt (.fr xs) (e1.set i .no)
      | _ => False := rfl
@[simp ↓] theorem r_retN : sRetN.run D' env = D'.rt (.sh .non) env := rfl
@[simp ↓] theorem r_sIf : (sIf t s s').run D' env = t.run env fun b e1 => if b = true then s.run D' e1 else s'.run D' e1 := rfl
@[simp ↓] theorem r_asg {g : DG} : (sAsg a g).run D' env = a.run env fun r e1 => dat e1 r fun d e2 => g.run d e2 D'.nx := rfl
@[simp ↓] theorem r_own : (sOwn i a).run D' env = a.run env fun r e1 => match r with
    | .fr ds => D'.nx (e1.set i (.ow ds))
    | .sh d => D'.nx (e1.set i (.sh d))
    | .bo _ => False := rfl
@[simp ↓] theorem r_par {r : DA} : (sPar i j r).run D' env = r.run env fun ds e1 => match ds with
    | [d, e] => D'.nx ((e1.set i (.sh d)).set j (.sh e))
    | _ => False := rfl
@[simp ↓] theorem r_aug : (sAug i R a).run D' env = (match env[i]? with
    | some (.sh d) => a.run env fun r e1 => match look e1 r with
      | some d' => (R d d').1 ∧ match (R d d').2 with
        | .sh z => D'.nx (e1.set i (.sh z))
        | _ => False
      | none => False
    | _ => False) := rfl
@[simp ↓] theorem r_store : (sStore j a b).run D' env = a.run env fun r e1 => dat e1 r fun d e2 => (ownAt e2 j).isSome = true ∧ b.run e2 fun rk e3 => match rk, ownAt e3 j with
    | .sh (.int n), some xs => (ixN xs.length n).isSome = true ∧ D'.nx (putAt e3 j (xs.set ((ixN xs.length n).getD 0) d))
    | _, _ => False := rfl
@[simp ↓] theorem r_while : (sWhile t s).run D' env = WhileF t s D' env ⟨⟩ := rfl
@[simp ↓] theorem r_for {d : DI} {g : DG} : (sFor d g s).run D' env = ForF d g s D' env ⟨⟩ := rfl
@[simp ↓] theorem r_lc {d : DI} {g : CT} {vs : List Nat} : (eLc d g t a vs).run env Q = LcF d g t a vs env Q ⟨⟩ := rfl
@[simp ↓] theorem r_gN {d : D} {QG : En → Prop} : (gN i).run d env QG = QG (env.set i (.sh d)) := rfl
@[simp ↓] theorem r_gNil {ds : List D} {QG : En → Prop} : gNilD.run ds env QG = (match ds with
    | [] => QG env
    | _ => False) := rfl
@[simp ↓] theorem r_gCons {ds : List D} {g : DG} {gs : DGs} {QG : En → Prop} : (gConsD g gs).run ds env QG = (match ds with
    | d :: ds => g.run d env fun e1 => gs.run ds e1 QG
    | [] => False) := rfl
@[simp ↓] theorem r_gTup {d : D} {n : Nat} {gs : DGs} {QG : En → Prop} : (gTupD n gs).run d env QG = (match d with
    | .tup ds => ds.length = n ∧ gs.run ds env QG
    | _ => False) := rfl
end
/-! ### pieces -/
@[simp] theorem holdR_sh {d : D} : holdR (.sh d) = .sh d := rfl
@[simp] theorem holdR_fr {d : List D} : holdR (.fr d) = .sh (.lst d) := rfl
@[simp] theorem holdR_bo {i : Nat} : holdR (.bo i) = .bo i := rfl
@[simp] theorem look_sh {e : En} {d : D} : look e (.sh d) = some d := rfl
@[simp] theorem look_fr {e : En} {d : List D} : look e (.fr d) = some (.lst d) := rfl
@[simp] theorem look_bo {e : En} {i : Nat} : look e (.bo i) = (match e[i]? with
    | some (.ow xs) => some (.lst xs)
    | some (.io xs) => some (.lst xs)
    | _ => none) := rfl
@[simp ↓] theorem dat_eq {e : En} {r : Rv} {k : D → En → Prop} : dat e r k = (match r with
    | .sh d => k d e
    | .fr ds => k (.lst ds) e
    | .bo i => match e[i]? with
      | some (.ow xs) => k (.lst xs) (e.set i (.sh (.lst xs)))
      | _ => False) := rfl
@[simp] theorem ownAt_0o {xs : List D} {e : En} : ownAt (.ow xs :: e) 0 = some xs := rfl
@[simp] theorem ownAt_0i {xs : List D} {e : En} : ownAt (.io xs :: e) 0 = some xs := rfl
@[simp] theorem ownAt_s {s : Sl} {e : En} {i : Nat} : ownAt (s :: e) (i + 1) = ownAt e i := by unfold ownAt; rw [List.getElem?_cons_succ]
@[simp] theorem putAt_0o {xs ys : List D} {e : En} : putAt (.ow xs :: e) 0 ys = .ow ys :: e := rfl
@[simp] theorem putAt_0i {xs ys : List D} {e : En} : putAt (.io xs :: e) 0 ys = .io ys :: e := rfl
@[simp] theorem putAt_s {s : Sl} {e : En} {i : Nat} {ys : List D} : putAt (s :: e) (i + 1) ys = s :: putAt e i ys := by
  unfold putAt
  rw [List.getElem?_cons_succ]
  cases h : e[i]? with
  | none => rfl
  | some t => cases t <;> rfl
@[simp] theorem add_ii {i j : Int} : addR (.int i) (.int j) = (True, .sh (.int (i + j))) := rfl
@[simp] theorem add_ll {i j : List D} : addR (.lst i) (.lst j) = (i.length + j.length ≤ 1000000, .fr (i ++ j)) := rfl
@[simp] theorem add_tt {i j : List D} : addR (.tup i) (.tup j) = (i ≠ [] ∧ i.length + j.length ≤ 1000000, .sh (.tup (i ++ j))) := rfl
@[simp] theorem add_ss {i j : Str} : addR (.str i) (.str j) = (i.length + j.length ≤ 1000000, .sh (.str (i ++ j))) := rfl
@[simp] theorem add_ib {i : Int} {j : Bool} : addR (.int i) (.bl j) = (True, .sh (.int (i + b2i j))) := rfl
@[simp] theorem sub_ii {i j : Int} : subR (.int i) (.int j) = (True, .sh (.int (i - j))) := rfl
@[simp] theorem mul_ii {i j : Int} : mulR (.int i) (.int j) = (IntMulOk i j, .sh (.int (i * j))) := rfl
@[simp] theorem mul_li {i : List D} {k : Int} : mulR (.lst i) (.int k) = (k ≤ 1000000 ∧ -1000000 ≤ k ∧ i.length * k.toNat ≤ 1000000, .fr (List.replicate k.toNat i).flatten) := rfl
@[simp] theorem fdiv_ii {i j : Int} : fdivR (.int i) (.int j) = (DivOk i j, .sh (.int (i.fdiv j))) := rfl
@[simp] theorem mod_ii {i j : Int} : modR (.int i) (.int j) = (j ≠ 0, .sh (.int (i.fmod j))) := rfl
@[simp] theorem pow_ii {i j : Int} : powR (.int i) (.int j) = (0 ≤ j ∧ j ≤ 1000000 ∧ i.natAbs < 2 ^ 64, .sh (.int (i ^ j.toNat))) := rfl
@[simp] theorem iadd_ii {i j : Int} : iaddR (.int i) (.int j) = (True, .sh (.int (i + j))) := rfl
@[simp] theorem imul_ii {i j : Int} : imulR (.int i) (.int j) = (IntMulOk i j, .sh (.int (i * j))) := rfl
@[simp] theorem lt_ii {i j : Int} : ltR (.int i) (.int j) = (True, .sh (.bl (decide (i < j)))) := rfl
@[simp] theorem le_ii {i j : Int} : leR (.int i) (.int j) = (True, .sh (.bl (decide (i ≤ j)))) := rfl
@[simp] theorem gt_ii {i j : Int} : gtR (.int i) (.int j) = (True, .sh (.bl (decide (j < i)))) := rfl
@[simp] theorem ge_ii {i j : Int} : geR (.int i) (.int j) = (True, .sh (.bl (decide (j ≤ i)))) := rfl
@[simp] theorem eq_dd {d e : D} : eqR d e = (d.fin 20 ∧ e.fin 20, .sh (.bl (eqD d e))) := rfl
@[simp] theorem ne_dd {d e : D} : neR d e = (d.fin 20 ∧ e.fin 20, .sh (.bl (!eqD d e))) := rfl
@[simp] theorem isN_d {d : D} : isNR d .non = (True, .sh (.bl (isNon d))) := by cases d <;> rfl
@[simp] theorem notN_d {d : D} : notNR d .non = (True, .sh (.bl (!isNon d))) := by cases d <;> rfl
@[simp] theorem in_l {d : D} {ds : List D} : inR d (.lst ds) = (d.flat = true ∧ ds.all D.flat = true, .sh (.bl (inD d ds))) := by cases d <;> rfl
@[simp] theorem in_t {d : D} {ds : List D} : inR d (.tup ds) = (d.flat = true ∧ ds.all D.flat = true, .sh (.bl (inD d ds))) := by cases d <;> rfl
@[simp] theorem nin_l {d : D} {ds : List D} : ninR d (.lst ds) = (d.flat = true ∧ ds.all D.flat = true, .sh (.bl (!inD d ds))) := by cases d <;> rfl
@[simp] theorem nin_t {d : D} {ds : List D} : ninR d (.tup ds) = (d.flat = true ∧ ds.all D.flat = true, .sh (.bl (!inD d ds))) := by cases d <;> rfl
@[simp] theorem neg_i {i : Int} : negR (.int i) = (True, .sh (.int (-i))) := rfl
@[simp] theorem ix_l {ds : List D} {i : Int} : ixR (.lst ds) (.int i) = ((atI ds i).isSome = true, .sh ((atI ds i).getD .non)) := rfl
@[simp] theorem ix_t {ds : List D} {i : Int} : ixR (.tup ds) (.int i) = ((atI ds i).isSome = true, .sh ((atI ds i).getD .non)) := rfl
@[simp] theorem ix_f {ds : List D} {i : Int} : ixR (.frz ds) (.int i) = ((atI ds i).isSome = true, .sh ((atI ds i).getD .non)) := rfl
@[simp] theorem len_l {ds : List D} : lenR (.lst ds) = (True, .sh (.int ds.length)) := rfl
@[simp] theorem len_t {ds : List D} : lenR (.tup ds) = (True, .sh (.int ds.length)) := rfl
@[simp] theorem len_f {ds : List D} : lenR (.frz ds) = (True, .sh (.int ds.length)) := rfl
@[simp] theorem len_s {z : Str} : lenR (.str z) = (z.length ≤ 1000000, .sh (.int z.length)) := rfl
@[simp] theorem abs_i {i : Int} : absR (.int i) = (True, .sh (.int (if i < 0 then -i else i))) := rfl
@[simp] theorem int_i {i : Int} : intR (.int i) = (True, .sh (.int i)) := rfl
@[simp] theorem int_b {i : Bool} : intR (.bl i) = (True, .sh (.int (if i then 1 else 0))) := rfl
@[simp] theorem list_l {ds : List D} : listR (.lst ds) = (True, .fr ds) := rfl
@[simp] theorem list_t {ds : List D} : listR (.tup ds) = (True, .fr ds) := rfl
@[simp] theorem list_f {ds : List D} : listR (.frz ds) = (True, .fr ds) := rfl
@[simp] theorem tuple_l {ds : List D} : tupleR (.lst ds) = (True, .sh (.tup ds)) := rfl
@[simp] theorem tuple_t {ds : List D} : tupleR (.tup ds) = (True, .sh (.tup ds)) := rfl
@[simp] theorem max2_ii {i j : Int} : max2R (.int i) (.int j) = (True, .sh (.int (if j > i then j else i))) := rfl
@[simp] theorem min2_ii {i j : Int} : min2R (.int i) (.int j) = (True, .sh (.int (if j < i then j else i))) := rfl
@[simp] theorem tru_b {b : Bool} : truD (.bl b) = (True, b) := rfl
@[simp] theorem tru_i {b : Int} : truD (.int b) = (True, b != 0) := rfl
@[simp] theorem tru_l {b : List D} : truD (.lst b) = (True, !b.isEmpty) := rfl
@[simp] theorem tru_t {b : List D} : truD (.tup b) = (True, !b.isEmpty) := rfl
@[simp] theorem tru_n : truD .non = (True, false) := rfl
@[simp] theorem isi_n {T : Ty5} : isiR T .non = (True, .sh (.bl false)) := rfl
@[simp] theorem isi_b {T : Ty5} {b : Bool} : isiR T (.bl b) = (True, .sh (.bl (match T with | .bool => true | .int => true | _ => false))) := rfl
@[simp] theorem isi_i {T : Ty5} {b : Int} : isiR T (.int b) = (True, .sh (.bl (match T with | .int => true | _ => false))) := rfl
@[simp] theorem isi_s {T : Ty5} {b : Str} : isiR T (.str b) = (True, .sh (.bl (match T with | .str => true | _ => false))) := rfl
@[simp] theorem isi_l {T : Ty5} {b : List D} : isiR T (.lst b) = (True, .sh (.bl (match T with | .list => true | _ => false))) := rfl
@[simp] theorem isi_t {T : Ty5} {b : List D} : isiR T (.tup b) = (True, .sh (.bl (match T with | .tuple => true | _ => false))) := rfl
@[simp] theorem sl_l {ds : List D} {lo hi : Option Int} : slR (.lst ds) lo hi = (True, .fr (cutD ds lo hi)) := rfl
@[simp] theorem sl_s {z : Str} {lo hi : Option Int} : slR (.str z) lo hi = (z.length ≤ 1000000, .sh (.str (cutS z lo hi))) := rfl
@[simp] theorem sl_t {ds : List D} {lo hi : Option Int} : slR (.tup ds) lo hi = (¬ (HT.sIx ds.length 0 lo = 0 ∧ HT.sIx ds.length ds.length hi = ds.length), .sh (.tup (cutD ds lo hi))) := rfl
/-! places -/
theorem atI_of {α : Type} (xs : List α) (k : Nat) : atI xs (k : Int) = xs[k]? := by
  cases h : xs[k]? with
  | some v => exact atI_nat h
  | none =>
    have hk : xs.length ≤ k := List.getElem?_eq_none_iff.mp h
    unfold atI ixN
    rw [if_pos (by omega), if_neg (by omega)]
    rfl
theorem atI_nn {α : Type} (xs : List α) {i : Int} (h : 0 ≤ i) : atI xs i = xs[i.toNat]? := by
  have := atI_of xs i.toNat
  rwa [show ((i.toNat : Nat) : Int) = i by omega] at this
@[simp] theorem atI_0 {α : Type} (xs : List α) : atI xs 0 = xs[0]? := atI_of xs 0
@[simp] theorem atI_1 {α : Type} (xs : List α) : atI xs 1 = xs[1]? := atI_of xs 1
@[simp] theorem atI_2 {α : Type} (xs : List α) : atI xs 2 = xs[2]? := atI_of xs 2
@[simp] theorem atI_3 {α : Type} (xs : List α) : atI xs 3 = xs[3]? := atI_of xs 3
@[simp] theorem atI_n {α : Type} (xs : List α) (k : Nat) : atI xs (k : Int) = xs[k]? := atI_of xs k
@[simp] theorem atI_m1 {α : Type} (xs : List α) : atI xs (-1) = xs.getLast? := by
  rcases List.eq_nil_or_concat xs with rfl | ⟨ys, y, rfl⟩
  · rfl
  · rw [List.concat_eq_append, atI_last, List.getLast?_concat]
theorem ixN_nn {n : Nat} {i : Int} (h0 : 0 ≤ i) (h : i < n) : ixN n i = some i.toNat := by unfold ixN; rw [if_pos h0, if_pos h]
@[simp] theorem fin_i {i : Int} {n : Nat} : (D.int i).fin n = True := eq_true (fin_int i n)
@[simp] theorem fin_b {i : Bool} {n : Nat} : (D.bl i).fin n = True := eq_true (fin_bl i n)
@[simp] theorem fin_n {n : Nat} : D.non.fin n = True := eq_true (fin_non n)
@[simp] theorem fin_s {x : Str} {n : Nat} : (D.str x).fin n = (PyData.strOk x = true) := by
  apply propext
  constructor
  · intro h
    cases n with
    | zero => exact h
    | succ n => exact h.elim id fun ⟨ds, e, _⟩ => by rcases e with e | e | e <;> cases e
  · exact fun h => fin_str h n
theorem fin_seq {ds : List D} {n : Nat} {d : D} (hd : d = .lst ds ∨ d = .tup ds ∨ d = .frz ds) : d.fin (n + 1) = ∀ x ∈ ds, x.fin n := by
  apply propext
  constructor
  · intro h
    rcases h with h | ⟨es, e, h⟩
    · rcases hd with rfl | rfl | rfl <;> cases h
    · rcases hd with rfl | rfl | rfl <;> rcases e with e | e | e <;> cases e <;> exact h
  · exact fun h => .inr ⟨ds, hd, h⟩
@[simp] theorem fin_l {ds : List D} {n : Nat} : (D.lst ds).fin (n + 1) = ∀ x ∈ ds, x.fin n := fin_seq (.inl rfl)
@[simp] theorem fin_t {ds : List D} {n : Nat} : (D.tup ds).fin (n + 1) = ∀ x ∈ ds, x.fin n := fin_seq (.inr (.inl rfl))
@[simp] theorem fin_f {ds : List D} {n : Nat} : (D.frz ds).fin (n + 1) = ∀ x ∈ ds, x.fin n := fin_seq (.inr (.inr rfl))
@[simp] theorem eqD_ii {i j : Int} : eqD (.int i) (.int j) = decide (i = j) := by
  show (i == j) = _
  exact Bool.beq_eq_decide_eq i j
@[simp] theorem eqD_bb {i j : Bool} : eqD (.bl i) (.bl j) = (i == j) := rfl
@[simp] theorem eqD_ss {i j : Str} : eqD (.str i) (.str j) = (i == j) := rfl
@[simp] theorem eqD_nn : eqD .non .non = true := rfl
@[simp] theorem eqD_tnil : eqD (.tup []) (.tup []) = true := rfl
@[simp] theorem eqD_tcons {d e : D} {ds es : List D} : eqD (.tup (d :: ds)) (.tup (e :: es)) = (eqD d e && eqD (.tup ds) (.tup es)) := rfl
@[simp] theorem eqD_t0 {d : D} {ds : List D} : eqD (.tup (d :: ds)) (.tup []) = false := rfl
@[simp] theorem eqD_0t {d : D} {ds : List D} : eqD (.tup []) (.tup (d :: ds)) = false := rfl
@[simp] theorem eqD_lnil : eqD (.lst []) (.lst []) = true := rfl
@[simp] theorem eqD_lcons {d e : D} {ds es : List D} : eqD (.lst (d :: ds)) (.lst (e :: es)) = (eqD d e && eqD (.lst ds) (.lst es)) := rfl
@[simp] theorem eqD_l0 {d : D} {ds : List D} : eqD (.lst (d :: ds)) (.lst []) = false := rfl
@[simp] theorem eqD_0l {d : D} {ds : List D} : eqD (.lst []) (.lst (d :: ds)) = false := rfl
@[simp] theorem isNon_i {i : Int} : isNon (.int i) = false := rfl
@[simp] theorem isNon_t {i : List D} : isNon (.tup i) = false := rfl
@[simp] theorem isNon_l {i : List D} : isNon (.lst i) = false := rfl
@[simp] theorem isNon_n : isNon .non = true := rfl
/-! calls -/
theorem Spec.go (s : Spec) (x : s.A) {ds : List D} {Q : Rv → Prop} {f : Fx Q} (e : ds = s.args x) (h : s.pre x) (q : ∀ r, s.post x r → Q r) : s.Run ds Q f := ⟨x, e, h, q⟩
theorem SpecS.go (s : SpecS) (x : s.A) {xs ds : List D} {Q : Rv → List D → Prop} {f : Fx Q} (e : xs = s.st x) (e' : ds = s.args x) (h : s.pre x) (q : ∀ r ys, s.post x r ys → Q r ys) : s.Run xs ds Q f := ⟨x, e, e', h, q⟩
/-- a promise that tells the answer -/
def Spec.det (A : Type) (args : A → List D) (pre : A → Prop) (res : A → Rv) : Spec := ⟨A, args, pre, fun x r => r = res x⟩
def SpecS.det (A : Type) (st args : A → List D) (pre : A → Prop) (res : A → Rv) (to : A → List D) : SpecS := ⟨A, st, args, pre, fun x r ys => r = res x ∧ ys = to x⟩
theorem Spec.det_run {A : Type} {args : A → List D} {pre : A → Prop} {res : A → Rv} (inj : ∀ x y, args x = args y → x = y) (x : A) {Q : Rv → Prop} {f : Fx Q} : (Spec.det A args pre res).Run (args x) Q f = (pre x ∧ Q (res x)) := by
  apply propext
  constructor
  · rintro ⟨y, e, h, q⟩
    cases inj x y e
    exact ⟨h, q _ rfl⟩
  · rintro ⟨h, q⟩
    exact ⟨x, rfl, h, fun r e => by cases e; exact q⟩
theorem SpecS.det_run {A : Type} {st args : A → List D} {pre : A → Prop} {res : A → Rv} {to : A → List D} (inj : ∀ x y, st x = st y → args x = args y → x = y) (x : A) {Q : Rv → List D → Prop} {f : Fx Q} : (SpecS.det A st args pre res to).Run (st x) (args x) Q f = (pre x ∧ Q (res x) (to x)) := by
  apply propext
  constructor
  · rintro ⟨y, e, e', h, q⟩
    cases inj x y e e'
    exact ⟨h, q _ _ ⟨rfl, rfl⟩⟩
  · rintro ⟨h, q⟩
    exact ⟨x, rfl, rfl, h, fun r ys e => by cases e.1; cases e.2; exact q⟩
/-! while, for, comprehensions -/
theorem while_go {c : DT} {b : DS} {D' : DEnds} {env : En} {f : Fx D'} (W : En → Prop) (μ : En → Nat) (h0 : W env)
    (h : ∀ e, W e → c.run e fun k e1 => if k = true then b.run (D'.lp fun e' => W e' ∧ μ e' < μ e) e1 else D'.nx e1) : WhileF c b D' env f := by
  refine ⟨fun m e => m = μ e ∧ W e, ⟨_, rfl, h0⟩, fun m e w => ?_⟩
  obtain ⟨rfl, w⟩ := w
  refine c.mono _ _ _ (fun k e1 q => ?_) (h e w)
  cases k with
  | false => exact q
  | true => exact ⟨_, fun e' n => ⟨_, n.2, rfl, n.1⟩, q⟩
/-- what is walked is told: these items, behind this start -/
def ItOk (i : DI) (env : En) (items : List D) (e0 : En) : Prop := ∀ Q : List D → En → Prop, Q items e0 → i.run env Q
theorem for_go {i : DI} {g : DG} {b : DS} {D' : DEnds} {env : En} {f : Fx D'} (items : List D) (e0 : En) (hi : ItOk i env items e0) (W : Nat → En → Prop) (h0 : W 0 e0)
    (hs : ∀ k x e1, items[k]? = some x → W k e1 → g.run x e1 fun e2 => b.run (D'.lp (W (k + 1))) e2) (hd : ∀ e1, W items.length e1 → D'.nx e1) : ForF i g b D' env f :=
  hi _ ⟨W, h0, hs, hd⟩
theorem lc_go {i : DI} {g : CT} {c : DT} {e : DE} {vs : List Nat} {env : En} {Q : Rv → En → Prop} {f : Fx Q} (items : List D) (e0 : En) (hi : ItOk i env items e0) (hv : ∀ v ∈ vs, v < e0.length ∧ (e0.getD v .no).plain) (W : Nat → List D → En → Prop) (h0 : W 0 [] (wipeE e0 vs))
    (hs : ∀ k x out e1, items[k]? = some x → W k out e1 → g.run x e1 fun e2 => c.run e2 fun b e3 => if b = true then e.run e3 fun r e4 => dat e4 r fun d e5 => out.length < 1000000 ∧ W (k + 1) (out ++ [d]) (wipeE e5 vs) else W (k + 1) out (wipeE e3 vs))
    (hd : ∀ out e1, W items.length out e1 → Q (.fr out) (unwipe e1 e0 vs)) : LcF i g c e vs env Q f :=
  hi _ ⟨hv, W, h0, hs, hd⟩
end Dn

set_option Elab.async false
set_option linter.all false
set_option maxRecDepth 100000
set_option maxHeartbeats 4000000
/-! Dn, part 10: loops and comprehensions in common shapes. -/
namespace Dn
open PySem PySem.Spec PyProof.Rows L2
@[simp] theorem ct1_run {i : Nat} {x : D} {e : En} {k : En → Prop} : (CT.one i).run x e k = k (e.set i (.sh x)) := rfl
@[simp] theorem ct2_run {i j : Nat} {x y : D} {e : En} {k : En → Prop} : (CT.two i j).run (.tup [x, y]) e k = k ((e.set i (.sh x)).set j (.sh y)) := rfl
@[simp] theorem ct3_run {i j l : Nat} {x y z : D} {e : En} {k : En → Prop} : (CT.three i j l).run (.tup [x, y, z]) e k = k (((e.set i (.sh x)).set j (.sh y)).set l (.sh z)) := rfl
theorem CT.mono' {g : CT} {x : D} {e : En} {k k' : En → Prop} (h : ∀ e, k e → k' e) (q : g.run x e k) : g.run x e k' := by
  unfold CT.run at *
  split at q
  · exact h _ q
  · exact h _ q
  · exact h _ q
  · exact q.elim
@[simp] theorem wipe_n {e : En} : wipeE e [] = e := rfl
@[simp] theorem wipe_c {e : En} {v : Nat} {vs : List Nat} : wipeE e (v :: vs) = (wipeE e vs).set v .no := rfl
@[simp] theorem unwipe_n {e e0 : En} : unwipe e e0 [] = e := rfl
@[simp] theorem unwipe_c {e e0 : En} {v : Nat} {vs : List Nat} : unwipe e e0 (v :: vs) = (unwipe e e0 vs).set v (e0.getD v .no) := rfl
@[simp] theorem plain_no : Sl.plain .no := trivial
@[simp] theorem plain_sh {d : D} : Sl.plain (.sh d) := trivial
@[simp] theorem sm_lit {i : Int} (h : -4000000000000000000 ≤ i) (h' : i ≤ 4000000000000000000) : Sm i := ⟨h, h'⟩
theorem sm_n {n : Nat} (h : n ≤ 4000000000000000000) : Sm (n : Int) := ⟨by omega, by omega⟩
theorem it_range1 {e : En} {n : Int} (h : Sm n) {r : DA} (hr : ∀ QA, r.run e QA = QA [.int n] e) : ItOk (iRange1 r) e (rangeD 0 n.toNat) e := fun Q q => by
  rw [r_range1, hr]
  exact ⟨h, q⟩
theorem it_range2 {e : En} {m n : Int} (h0 : Sm m) (h : Sm n) {r : DA} (hr : ∀ QA, r.run e QA = QA [.int m, .int n] e) : ItOk (iRange2 r) e (rangeD m (n - m).toNat) e := fun Q q => by
  rw [r_range2, hr]
  exact ⟨h0, h, q⟩
/-- nothing can be asked -/
theorem fn_none {P : Program} {w : World} {K : PySem.W.Frag} {mg : Str → Option Value} {base : Heap} {k : Nat} {f : Addr} {fd : FuncData} {ps : List Str} {s : Spec} (h : ∀ x, ¬ s.pre x) : FnOk P w K mg base CX0 k f fd ps (spOf K mg s) :=
  have no : ∀ vs H Q E, ¬ spOf K mg s vs H Q E := fun vs H Q E q => by
    obtain ⟨F, ds, _, _, y, _, hp, _⟩ := q
    exact h y hp
  ⟨fun vs H Q E q => absurd q (no vs H Q E), fun A outer t H args us vs Q E _ _ _ _ q => absurd q (no vs H Q E)⟩
/-- a loop over the numbers below n -/
theorem for_range {n : Nat} {e : En} {r : DA} {g : Nat} {b : DS} {D' : DEnds} {f : Fx D'} (hn : n ≤ 4000000000000000000) (hr : ∀ QA, r.run e QA = QA [.int (n : Int)] e) (W : Nat → En → Prop) (h0 : W 0 e)
    (hs : ∀ k, k < n → ∀ e1, W k e1 → b.run (D'.lp (W (k + 1))) (e1.set g (.sh (.int (k : Int))))) (hd : ∀ e1, W n e1 → D'.nx e1) : ForF (iRange1 r) (gN g) b D' e f :=
  for_go (rangeD 0 n) e (it_range1 (sm_n hn) hr) W h0 (fun k x e1 hx w => by
    rw [rangeD_get] at hx
    split at hx
    · cases hx
      rw [r_gN, Int.zero_add]
      exact hs k (by assumption) e1 w
    · cases hx) fun e1 w => hd e1 (by rwa [rangeD_len] at w)
/-- a loop over the numbers from m below n -/
theorem for_range2 {m n : Nat} {e : En} {r : DA} {g : Nat} {b : DS} {D' : DEnds} {f : Fx D'} (hm : m ≤ 4000000000000000000) (hn : n ≤ 4000000000000000000) (hr : ∀ QA, r.run e QA = QA [.int (m : Int), .int (n : Int)] e) (W : Nat → En → Prop) (h0 : W m e)
    (hs : ∀ k, m ≤ k → k < n → ∀ e1, W k e1 → b.run (D'.lp (W (k + 1))) (e1.set g (.sh (.int (k : Int))))) (hd : ∀ k e1, m ≤ k → n ≤ k → W k e1 → D'.nx e1) : ForF (iRange2 r) (gN g) b D' e f :=
  for_go (rangeD m (n - m)) e (by have := it_range2 (sm_n hm) (sm_n hn) hr; rwa [show ((n : Int) - (m : Int)).toNat = n - m by omega] at this) (fun k => W (m + k)) h0 (fun k x e1 hx w => by
    rw [rangeD_get] at hx
    split at hx
    · cases hx
      rw [r_gN, ← Int.natCast_add]
      exact hs (m + k) (by omega) (by omega) e1 w
    · cases hx) fun e1 w => hd (m + (n - m)) e1 (by omega) (by omega) (by rwa [rangeD_len] at w)
/-- one statement, then the others: only P is handed on -/
theorem seq_cut (P : En → Prop) {s s' : DS} {D' : DEnds} {e : En} (h : s.run (D'.sq P) e) (h' : ∀ e, P e → s'.run D' e) : (sSeq s s').run D' e :=
  s.mono (D'.sq P) (D'.sqS s') e ⟨fun e p => h' e p, fun _ _ h => h, fun _ h => h, fun _ h => h⟩ h
/-- a loop over a list's items -/
theorem it_seq {a : DE} {e : En} {ds : List D} (h : ∀ Q : List D → En → Prop, (iSeq a).run e Q = Q ds e) : ItOk (iSeq a) e ds e := fun Q q => by rw [h]; exact q
theorem for_seq {ds : List D} {e : En} {i : DI} {g : DG} {b : DS} {D' : DEnds} {f : Fx D'} (hr : ∀ Q : List D → En → Prop, i.run e Q = Q ds e) (W : Nat → En → Prop) (h0 : W 0 e)
    (hs : ∀ k (h : k < ds.length), ∀ e1, W k e1 → g.run ds[k] e1 fun e2 => b.run (D'.lp (W (k + 1))) e2) (hd : ∀ e1, W ds.length e1 → D'.nx e1) : ForF i g b D' e f :=
  for_go ds e (fun Q q => by rw [hr]; exact q) W h0 (fun k x e1 hx w => by
    obtain ⟨h, rfl⟩ := List.getElem?_eq_some_iff.mp hx
    exact hs k h e1 w) hd
/-- a comprehension that maps -/
theorem lc_map {i : DI} {g : CT} {e : DE} {vs : List Nat} {env : En} {Q : Rv → En → Prop} {f : Fx Q} (items out : List D) (hl : out.length = items.length) (hn : out.length ≤ 1000000) (hi : ∀ Q : List D → En → Prop, i.run env Q = Q items env) (hv : ∀ v ∈ vs, v < env.length ∧ (env.getD v .no).plain)
    (hs : ∀ k (h : k < items.length), g.run items[k] (wipeE env vs) fun e2 => e.run e2 fun r e4 => dat e4 r fun d e5 => d = out[k]'(by omega) ∧ wipeE e5 vs = wipeE env vs)
    (hd : Q (.fr out) (unwipe (wipeE env vs) env vs)) : LcF i g tYesD e vs env Q f := by
  refine lc_go items env (fun Q q => by rw [hi]; exact q) hv (fun k o e1 => o = out.take k ∧ e1 = wipeE env vs) ⟨rfl, rfl⟩ ?_ ?_
  · rintro k x o e1 hx ⟨rfl, rfl⟩
    obtain ⟨h, rfl⟩ := List.getElem?_eq_some_iff.mp hx
    have := hs k h
    refine CT.mono' (fun e2 q => ?_) this
    rw [r_tYes, if_pos rfl]
    refine e.mono _ _ _ (fun r e4 q => dat_mono (fun d e5 q => ?_) q) q
    obtain ⟨rfl, q⟩ := q
    refine ⟨?_, ?_, q⟩
    · rw [List.length_take]; omega
    · rw [List.take_succ_eq_append_getElem (by omega)]
  · rintro o e1 ⟨rfl, rfl⟩
    rw [← hl, List.take_length]
    exact hd
end Dn

set_option Elab.async false
set_option linter.all false
set_option maxRecDepth 100000
set_option maxHeartbeats 4000000
set_option exponentiation.threshold 1000000
/-! fractions: data, sizes, specs -/
namespace Dn
open PySem PySem.Spec PyProof.Rows L2

def frD (r : Rat) : D := .tup [.int r.num, .int r.den]
theorem frD_inj {r s : Rat} (h : frD r = frD s) : r = s := by
  unfold frD at h
  simp only [D.tup.injEq, List.cons.injEq, D.int.injEq, and_true] at h
  exact Rat.ext h.1 (by omega)
@[simp] theorem frD_eq {r s : Rat} : (frD r = frD s) = (r = s) := propext ⟨frD_inj, fun h => by rw [h]⟩
@[simp] theorem ix_fr0 {r : Rat} : ixR (frD r) (.int 0) = (True, .sh (.int r.num)) := by simp [frD]
@[simp] theorem ix_fr1 {r : Rat} : ixR (frD r) (.int 1) = (True, .sh (.int r.den)) := by simp [frD]
@[simp] theorem len_fr {r : Rat} : lenR (frD r) = (True, .sh (.int 2)) := rfl
@[simp] theorem fin_fr {r : Rat} {n : Nat} : (frD r).fin (n + 1) = True := by simp [frD]
@[simp] theorem eqD_fr {r s : Rat} : eqD (frD r) (frD s) = decide (r = s) := by
  unfold frD
  simp only [eqD_tcons, eqD_ii, eqD_tnil, Bool.and_true]
  rw [← Bool.decide_and]
  congr 1
  apply propext
  constructor
  · rintro ⟨h1, h2⟩
    exact Rat.ext h1 (by omega)
  · rintro rfl
    exact ⟨rfl, rfl⟩
/-- a written pair of ints is a fraction -/
theorem frD_int (i : Int) : D.tup [.int i, .int 1] = frD (i : Rat) := rfl
/-! sizes -/
def Sz (n : Nat) (i : Int) : Prop := i.natAbs < 2 ^ n
def RSz (n : Nat) (r : Rat) : Prop := r.num.natAbs < 2 ^ n ∧ r.den < 2 ^ n
theorem Sz.up {n m : Nat} {i : Int} (h : Sz n i) (l : n ≤ m) : Sz m i := Nat.lt_of_lt_of_le h (Nat.pow_le_pow_right (by decide) l)
theorem RSz.up {n m : Nat} {i : Rat} (h : RSz n i) (l : n ≤ m) : RSz m i := ⟨Nat.lt_of_lt_of_le h.1 (Nat.pow_le_pow_right (by decide) l), Nat.lt_of_lt_of_le h.2 (Nat.pow_le_pow_right (by decide) l)⟩
theorem RSz.num {n : Nat} {r : Rat} (h : RSz n r) : Sz n r.num := h.1
theorem RSz.den {n : Nat} {r : Rat} (h : RSz n r) : Sz n r.den := h.2
theorem Sz.mul {n m : Nat} {i j : Int} (h : Sz n i) (h' : Sz m j) : Sz (n + m) (i * j) := wide_lt h h'
theorem Sz.add {n : Nat} {i j : Int} (h : Sz n i) (h' : Sz n j) : Sz (n + 1) (i + j) := by
  unfold Sz at *
  rw [Nat.pow_succ]
  omega
theorem Sz.sub {n : Nat} {i j : Int} (h : Sz n i) (h' : Sz n j) : Sz (n + 1) (i - j) := by
  unfold Sz at *
  rw [Nat.pow_succ]
  omega
theorem Sz.neg {n : Nat} {i : Int} (h : Sz n i) : Sz n (-i) := by unfold Sz at *; omega
theorem Sz.le {n : Nat} {i j : Int} (h : Sz n j) (l : i.natAbs ≤ j.natAbs) : Sz n i := Nat.lt_of_le_of_lt l h
theorem Sz.mulOk {n m : Nat} {i j : Int} (h : Sz n i) (h' : Sz m j) (l : n + m ≤ 999998) : IntMulOk i j :=
  (wide_mul (Sz.up h (Nat.le_add_right n 1)) (Sz.up h' (Nat.le_add_right m 1)) (by omega) (by omega) (by omega)).ok
theorem mulOkL {i j : Int} (h : i.natAbs < 2 ^ 64) : IntMulOk i j := .of_left (intBits_le_64 (by omega) (by omega))
theorem mulOkR {i j : Int} (h : j.natAbs < 2 ^ 64) : IntMulOk i j := .of_right (intBits_le_64 (by omega) (by omega))
theorem Sz.divOk {n : Nat} {i j : Int} (h : Sz n j) (l : n ≤ 9000) (h0 : j ≠ 0) : DivOk i j :=
  ⟨h0, PyProof.noPylong_of_log2 (Flt.log2_lt_of (k := 9000) (by decide) (Sz.up h l))⟩
theorem ratSz {n : Nat} {p q : Int} (h : Sz n p) (h' : Sz n q) (h0 : q ≠ 0) : RSz n (Rat.divInt p q) := by
  have hg : Int.gcd q p ≠ 0 := fun e => h0 (Int.gcd_eq_zero_iff.mp e).1
  refine ⟨?_, ?_⟩
  · rw [Rat.num_divInt]
    refine Nat.lt_of_le_of_lt ?_ h
    have e1 : (q.sign * p / (q.gcd p : Int)).natAbs ≤ (q.sign * p).natAbs := by
      rw [Int.natAbs_ediv_of_dvd (Int.dvd_trans (Int.gcd_dvd_right ..) (Int.dvd_mul_left ..))]
      exact Nat.div_le_self _ _
    refine Nat.le_trans e1 ?_
    rw [Int.natAbs_mul]
    have : q.sign.natAbs ≤ 1 := by
      rcases Int.lt_trichotomy q 0 with z | z | z
      · rw [Int.sign_eq_neg_one_of_neg z]; decide
      · exact absurd z h0
      · rw [Int.sign_eq_one_of_pos z]; decide
    calc q.sign.natAbs * p.natAbs ≤ 1 * p.natAbs := Nat.mul_le_mul_right _ this
      _ = p.natAbs := Nat.one_mul _
  · rw [Rat.den_divInt, if_neg h0]
    exact Nat.lt_of_le_of_lt (Nat.div_le_self _ _) h'
theorem Sz.of_nat {n : Nat} {k : Nat} (h : k < 2 ^ n) : Sz n (k : Int) := h
theorem RSz.of_mk {n d : Nat} {p : Int} {k : Nat} (h : Sz n p) (h' : k < 2 ^ n) (h0 : k ≠ 0) : RSz n (mkRat p k) := by
  have := ratSz (q := (k : Int)) h h' (by omega)
  rwa [Rat.divInt_ofNat] at this
theorem RSz.add {n m : Nat} {r s : Rat} (h : RSz n r) (h' : RSz m s) : RSz (n + m + 1) (r + s) := by
  rw [Rat.add_def']
  refine RSz.of_mk (d := 0) ?_ ?_ (Nat.mul_ne_zero r.den_nz s.den_nz)
  · exact Sz.add (n := n + m) (h.num.mul h'.den) (by rw [Nat.add_comm]; exact h'.num.mul h.den)
  · have := h.den.mul h'.den
    exact this.up (Nat.le_succ _)
theorem RSz.sub {n m : Nat} {r s : Rat} (h : RSz n r) (h' : RSz m s) : RSz (n + m + 1) (r - s) := by
  rw [Rat.sub_def']
  refine RSz.of_mk (d := 0) ?_ ?_ (Nat.mul_ne_zero r.den_nz s.den_nz)
  · exact Sz.sub (n := n + m) (h.num.mul h'.den) (by rw [Nat.add_comm]; exact h'.num.mul h.den)
  · have := h.den.mul h'.den
    exact this.up (Nat.le_succ _)
theorem RSz.mul {n m : Nat} {r s : Rat} (h : RSz n r) (h' : RSz m s) : RSz (n + m) (r * s) := by
  rw [Rat.mul_def']
  exact RSz.of_mk (d := 0) (h.num.mul h'.num) (h.den.mul h'.den) (Nat.mul_ne_zero r.den_nz s.den_nz)
theorem RSz.int {n : Nat} {i : Int} (h : Sz n i) (hn : 0 < n) : RSz n (i : Rat) := ⟨h, by show 1 < 2 ^ n; exact Nat.one_lt_two_pow (by omega)⟩
theorem div_divInt (r s : Rat) : r / s = Rat.divInt (r.num * s.den) (r.den * s.num) := by
  rw [Rat.div_def, Rat.inv_def]
  conv => lhs; rw [← Rat.num_divInt_den r]
  rw [Rat.divInt_mul_divInt]
theorem RSz.div {n m : Nat} {r s : Rat} (h : RSz n r) (h' : RSz m s) (h0 : s ≠ 0) : RSz (n + m) (r / s) := by
  rw [div_divInt]
  refine ratSz (h.num.mul h'.den) (h.den.mul h'.num) ?_
  have h1 : s.num ≠ 0 := fun e => h0 (Rat.num_eq_zero.mp e)
  have h2 : (r.den : Int) ≠ 0 := by have := r.den_nz; omega
  exact Int.mul_ne_zero h2 h1
/-! what the defs promise -/
def sp_common_divisor : Spec := .det (Int × Int) (fun x => [.int x.1, .int x.2]) (fun _ => True) fun x => .sh (.int (Int.gcd x.1 x.2))
def sp_ratio : Spec := .det (Int × Int) (fun x => [.int x.1, .int x.2]) (fun x => x.2 ≠ 0 ∧ Sz 9000 x.2) fun x => .sh (frD (Rat.divInt x.1 x.2))
def sp_plus : Spec := .det (Rat × Rat) (fun x => [frD x.1, frD x.2]) (fun x => RSz 4000 x.1 ∧ RSz 4000 x.2) fun x => .sh (frD (x.1 + x.2))
def sp_minus : Spec := .det (Rat × Rat) (fun x => [frD x.1, frD x.2]) (fun x => RSz 4000 x.1 ∧ RSz 4000 x.2) fun x => .sh (frD (x.1 - x.2))
def sp_times : Spec := .det (Rat × Rat) (fun x => [frD x.1, frD x.2]) (fun x => RSz 4000 x.1 ∧ RSz 4000 x.2) fun x => .sh (frD (x.1 * x.2))
def sp_over : Spec := .det (Rat × Rat) (fun x => [frD x.1, frD x.2]) (fun x => RSz 4000 x.1 ∧ RSz 4000 x.2 ∧ x.2 ≠ 0) fun x => .sh (frD (x.1 / x.2))
def sp_sign : Spec := .det Int (fun x => [.int x]) (fun _ => True) fun x => .sh (.int x.sign)
def cmpR (x y : Rat) : Int := if x < y then -1 else if y < x then 1 else 0
def sp_compare : Spec := .det (Rat × Rat) (fun x => [frD x.1, frD x.2]) (fun x => RSz 400000 x.1 ∧ RSz 400000 x.2) fun x => .sh (.int (cmpR x.1 x.2))
def sp_floor_of : Spec := .det Rat (fun x => [frD x]) (fun x => RSz 9000 x) fun x => .sh (.int x.floor)
def sp_ceiling_of : Spec := .det Rat (fun x => [frD x]) (fun x => RSz 9000 x) fun x => .sh (.int x.ceil)
section
variable {Q : Rv → Prop} {f : Fx Q}
theorem inj_ii {x y : Int × Int} (h : [D.int x.1, D.int x.2] = [D.int y.1, D.int y.2]) : x = y := by
  obtain ⟨a, b⟩ := x
  obtain ⟨c, d⟩ := y
  simp only [List.cons.injEq, D.int.injEq, and_true] at h
  rw [h.1, h.2]
theorem inj_ff {x y : Rat × Rat} (h : [frD x.1, frD x.2] = [frD y.1, frD y.2]) : x = y := by
  obtain ⟨a, b⟩ := x
  obtain ⟨c, d⟩ := y
  simp only [List.cons.injEq, frD_eq, and_true] at h
  rw [h.1, h.2]
@[simp ↓] theorem c_common_divisor {a b : Int} : sp_common_divisor.Run [.int a, .int b] Q f = Q (.sh (.int (Int.gcd a b))) := (Spec.det_run (fun _ _ => inj_ii) (a, b)).trans (true_and _)
@[simp ↓] theorem c_ratio {a b : Int} : sp_ratio.Run [.int a, .int b] Q f = ((b ≠ 0 ∧ Sz 9000 b) ∧ Q (.sh (frD (Rat.divInt a b)))) := Spec.det_run (fun _ _ => inj_ii) (a, b)
@[simp ↓] theorem c_plus {a b : Rat} : sp_plus.Run [frD a, frD b] Q f = ((RSz 4000 a ∧ RSz 4000 b) ∧ Q (.sh (frD (a + b)))) := Spec.det_run (fun _ _ => inj_ff) (a, b)
@[simp ↓] theorem c_minus {a b : Rat} : sp_minus.Run [frD a, frD b] Q f = ((RSz 4000 a ∧ RSz 4000 b) ∧ Q (.sh (frD (a - b)))) := Spec.det_run (fun _ _ => inj_ff) (a, b)
@[simp ↓] theorem c_times {a b : Rat} : sp_times.Run [frD a, frD b] Q f = ((RSz 4000 a ∧ RSz 4000 b) ∧ Q (.sh (frD (a * b)))) := Spec.det_run (fun _ _ => inj_ff) (a, b)
@[simp ↓] theorem c_over {a b : Rat} : sp_over.Run [frD a, frD b] Q f = ((RSz 4000 a ∧ RSz 4000 b ∧ b ≠ 0) ∧ Q (.sh (frD (a / b)))) := Spec.det_run (fun _ _ => inj_ff) (a, b)
@[simp ↓] theorem c_sign {a : Int} : sp_sign.Run [.int a] Q f = Q (.sh (.int a.sign)) := (Spec.det_run (fun _ _ h => by simpa using h) a).trans (true_and _)
@[simp ↓] theorem c_compare {a b : Rat} : sp_compare.Run [frD a, frD b] Q f = ((RSz 400000 a ∧ RSz 400000 b) ∧ Q (.sh (.int (cmpR a b)))) := Spec.det_run (fun _ _ => inj_ff) (a, b)
@[simp ↓] theorem c_floor_of {a : Rat} : sp_floor_of.Run [frD a] Q f = (RSz 9000 a ∧ Q (.sh (.int a.floor))) := Spec.det_run (fun _ _ h => by simpa using h) a
@[simp ↓] theorem c_ceiling_of {a : Rat} : sp_ceiling_of.Run [frD a] Q f = (RSz 9000 a ∧ Q (.sh (.int a.ceil))) := Spec.det_run (fun _ _ h => by simpa using h) a
end
end Dn

set_option Elab.async false
set_option linter.all false
set_option maxRecDepth 100000
set_option maxHeartbeats 4000000
set_option exponentiation.threshold 1000000
/-! fractions: the defs keep their promises -/
namespace Dn
open PySem PySem.Spec PyProof.Rows L2
def d_common_divisor : DS :=
  (sSeq (sPar 0 1 (aCons (eOp1 absR (eVar 0)) (aCons (eOp1 absR (eVar 1)) aNil)))
  (sSeq (sWhile (tB (eOp gtR (eVar 1) (eC (.int 0)))) (sPar 0 1 (aCons (eVar 1) (aCons (eOp modR (eVar 0) (eVar 1)) aNil))))
  (sRet (eVar 0))))

def d_ratio : DS :=
  (sSeq (sIf (tB (eOp eqR (eVar 1) (eC (.int 0)))) sNever sNext)
  (sSeq (sSet 2 (eCall sp_common_divisor (aCons (eVar 0) (aCons (eVar 1) aNil))))
  (sSeq (sIf (tB (eOp ltR (eVar 1) (eC (.int 0)))) (sSet 2 (eOp1 negR (eVar 2))) sNext)
  (sRet (eTup (aCons (eOp fdivR (eVar 0) (eVar 2)) (aCons (eOp fdivR (eVar 1) (eVar 2)) aNil)))))))

def d_plus : DS :=
  (sRet (eCall sp_ratio (aCons (eOp addR (eOp mulR (eOp ixR (eVar 0) (eC (.int 0))) (eOp ixR (eVar 1) (eC (.int 1)))) (eOp mulR (eOp ixR (eVar 1) (eC (.int 0))) (eOp ixR (eVar 0) (eC (.int 1))))) (aCons (eOp mulR (eOp ixR (eVar 0) (eC (.int 1))) (eOp ixR (eVar 1) (eC (.int 1)))) aNil))))

def d_minus : DS :=
  (sRet (eCall sp_ratio (aCons (eOp subR (eOp mulR (eOp ixR (eVar 0) (eC (.int 0))) (eOp ixR (eVar 1) (eC (.int 1)))) (eOp mulR (eOp ixR (eVar 1) (eC (.int 0))) (eOp ixR (eVar 0) (eC (.int 1))))) (aCons (eOp mulR (eOp ixR (eVar 0) (eC (.int 1))) (eOp ixR (eVar 1) (eC (.int 1)))) aNil))))

def d_times : DS :=
  (sRet (eCall sp_ratio (aCons (eOp mulR (eOp ixR (eVar 0) (eC (.int 0))) (eOp ixR (eVar 1) (eC (.int 0)))) (aCons (eOp mulR (eOp ixR (eVar 0) (eC (.int 1))) (eOp ixR (eVar 1) (eC (.int 1)))) aNil))))

def d_over : DS :=
  (sRet (eCall sp_ratio (aCons (eOp mulR (eOp ixR (eVar 0) (eC (.int 0))) (eOp ixR (eVar 1) (eC (.int 1)))) (aCons (eOp mulR (eOp ixR (eVar 0) (eC (.int 1))) (eOp ixR (eVar 1) (eC (.int 0)))) aNil))))

def d_sign : DS :=
  (sSeq (sIf (tB (eOp gtR (eVar 0) (eC (.int 0)))) (sRet (eC (.int 1))) sNext)
  (sRet (eIf (tB (eOp ltR (eVar 0) (eC (.int 0)))) (eOp1 negR (eC (.int 1))) (eC (.int 0)))))

def d_compare : DS :=
  (sRet (eCall sp_sign (aCons (eOp subR (eOp mulR (eOp ixR (eVar 0) (eC (.int 0))) (eOp ixR (eVar 1) (eC (.int 1)))) (eOp mulR (eOp ixR (eVar 1) (eC (.int 0))) (eOp ixR (eVar 0) (eC (.int 1))))) aNil)))

def d_floor_of : DS :=
  (sRet (eOp fdivR (eOp ixR (eVar 0) (eC (.int 0))) (eOp ixR (eVar 0) (eC (.int 1)))))

def d_ceiling_of : DS :=
  (sRet (eOp1 negR (eOp fdivR (eOp1 negR (eOp ixR (eVar 0) (eC (.int 0)))) (eOp ixR (eVar 0) (eC (.int 1))))))

theorem abs_eq (a : Int) : (if a < 0 then -a else a) = (a.natAbs : Int) := by split <;> omega
theorem k_common_divisor : sp_common_divisor.Ok 2 d_common_divisor := by
  rintro ⟨a, b⟩ -
  simp [entry, sp_common_divisor, Spec.det]
  simp -dsimp [d_common_divisor, abs_eq]
  refine while_go (fun e => ∃ x y : Nat, e = [.sh (.int x), .sh (.int y)] ∧ Nat.gcd x y = Int.gcd a b) (fun e => match e with | [_, .sh (.int y)] => y.toNat | _ => 0) ⟨_, _, rfl, rfl⟩ ?_
  rintro e ⟨x, y, rfl, h⟩
  simp -dsimp
  by_cases hy : 0 < y
  · simp -dsimp [hy]
    refine ⟨by omega, ⟨y, x % y, ?_, ?_⟩, ?_⟩
    · rw [Int.fmod_eq_emod_of_nonneg _ (by omega)]; simp
    · rw [← h, Nat.gcd_comm x y, Nat.gcd_rec y x, Nat.gcd_comm]
    · rw [Int.fmod_eq_emod_of_nonneg _ (by omega)]
      have := Nat.mod_lt x hy
      omega
  · have : y = 0 := by omega
    subst this
    simp -dsimp
    rw [← h]; simp
theorem k_ratio : sp_ratio.Ok 3 d_ratio := by
  rintro ⟨p, q⟩ ⟨h0, hs⟩
  have h0 : q ≠ 0 := h0
  have hs : Sz 9000 q := hs
  simp [entry, sp_ratio, Spec.det]
  simp -dsimp [d_ratio, h0]
  have hg : Int.gcd p q ≠ 0 := fun e => h0 (Int.gcd_eq_zero_iff.mp e).2
  have hz : (Int.gcd p q : Int).natAbs ≤ q.natAbs := by
    have := Nat.le_of_dvd (by omega) (Int.gcd_dvd_natAbs_right p q)
    omega
  have dp : (Int.gcd p q : Int) ∣ p := Int.gcd_dvd_left ..
  have dq : (Int.gcd p q : Int) ∣ q := Int.gcd_dvd_right ..
  by_cases hq : q < 0
  · have hd : ∀ i : Int, DivOk i (-(Int.gcd p q : Int)) := fun i => Sz.divOk (n := 9000) (Sz.le hs (by omega)) (by decide) (by omega)
    simp -dsimp [hq, hd]
    unfold frD
    rw [Rat.num_divInt, Rat.den_divInt, if_neg h0, Int.sign_eq_neg_one_of_neg hq, Int.gcd_comm q p]
    simp only [D.tup.injEq, List.cons.injEq, D.int.injEq, and_true]
    refine ⟨?_, ?_⟩
    · rw [Int.fdiv_eq_ediv_of_dvd ((Int.neg_dvd).mpr dp), Int.ediv_neg, Int.neg_mul, Int.one_mul, Int.neg_ediv_of_dvd dp]
    · rw [Int.fdiv_eq_ediv_of_dvd ((Int.neg_dvd).mpr dq), Int.ediv_neg, ← Int.neg_ediv_of_dvd dq, Int.natCast_ediv]
      congr 1
      omega
  · have hd : ∀ i : Int, DivOk i (Int.gcd p q : Int) := fun i => Sz.divOk (n := 9000) (Sz.le hs (by omega)) (by decide) (by omega)
    simp -dsimp [hq, hd]
    unfold frD
    rw [Rat.num_divInt, Rat.den_divInt, if_neg h0, Int.sign_eq_one_of_pos (by omega), Int.gcd_comm q p]
    simp only [D.tup.injEq, List.cons.injEq, D.int.injEq, and_true]
    refine ⟨?_, ?_⟩
    · rw [Int.fdiv_eq_ediv_of_dvd dp, Int.one_mul]
    · rw [Int.fdiv_eq_ediv_of_dvd dq, Int.natCast_ediv]
      congr 1
      omega
theorem den_ne (r : Rat) : (r.den : Int) ≠ 0 := by have := r.den_nz; omega
theorem add_divInt (r s : Rat) : Rat.divInt (r.num * s.den + s.num * r.den) (r.den * s.den) = r + s := by
  conv => rhs; rw [← Rat.num_divInt_den r, ← Rat.num_divInt_den s]
  rw [Rat.divInt_add_divInt _ _ (den_ne r) (den_ne s)]
theorem sub_divInt (r s : Rat) : Rat.divInt (r.num * s.den - s.num * r.den) (r.den * s.den) = r - s := by
  conv => rhs; rw [← Rat.num_divInt_den r, ← Rat.num_divInt_den s]
  rw [Rat.divInt_sub_divInt _ _ (den_ne r) (den_ne s)]
theorem mul_divInt (r s : Rat) : Rat.divInt (r.num * s.num) (r.den * s.den) = r * s := by
  conv => rhs; rw [← Rat.num_divInt_den r, ← Rat.num_divInt_den s]
  rw [Rat.divInt_mul_divInt]
theorem k_plus : sp_plus.Ok 2 d_plus := by
  rintro ⟨x, y⟩ ⟨hx, hy⟩
  have hx : RSz 4000 x := hx
  have hy : RSz 4000 y := hy
  simp [entry, sp_plus, Spec.det]
  simp -dsimp [d_plus]
  exact ⟨hx.num.mulOk hy.den (by decide), hy.num.mulOk hx.den (by decide), hx.den.mulOk hy.den (by decide), ⟨⟨x.den_nz, y.den_nz⟩, Sz.up (hx.den.mul hy.den) (by decide)⟩, add_divInt x y⟩
theorem k_minus : sp_minus.Ok 2 d_minus := by
  rintro ⟨x, y⟩ ⟨hx, hy⟩
  have hx : RSz 4000 x := hx
  have hy : RSz 4000 y := hy
  simp [entry, sp_minus, Spec.det]
  simp -dsimp [d_minus]
  exact ⟨hx.num.mulOk hy.den (by decide), hy.num.mulOk hx.den (by decide), hx.den.mulOk hy.den (by decide), ⟨⟨x.den_nz, y.den_nz⟩, Sz.up (hx.den.mul hy.den) (by decide)⟩, sub_divInt x y⟩
theorem k_times : sp_times.Ok 2 d_times := by
  rintro ⟨x, y⟩ ⟨hx, hy⟩
  have hx : RSz 4000 x := hx
  have hy : RSz 4000 y := hy
  simp [entry, sp_times, Spec.det]
  simp -dsimp [d_times]
  exact ⟨hx.num.mulOk hy.num (by decide), hx.den.mulOk hy.den (by decide), ⟨⟨x.den_nz, y.den_nz⟩, Sz.up (hx.den.mul hy.den) (by decide)⟩, mul_divInt x y⟩
theorem k_over : sp_over.Ok 2 d_over := by
  rintro ⟨x, y⟩ ⟨hx, hy, h0⟩
  have hx : RSz 4000 x := hx
  have hy : RSz 4000 y := hy
  have h0 : y ≠ 0 := h0
  simp [entry, sp_over, Spec.det]
  simp -dsimp [d_over]
  exact ⟨hx.num.mulOk hy.den (by decide), hx.den.mulOk hy.num (by decide), ⟨⟨x.den_nz, h0⟩, Sz.up (hx.den.mul hy.num) (by decide)⟩, (div_divInt x y).symm⟩
theorem k_sign : sp_sign.Ok 1 d_sign := by
  intro (x : Int) _
  simp [entry, sp_sign, Spec.det]
  simp -dsimp [d_sign]
  split
  · exact (Int.sign_eq_one_of_pos (by assumption)).symm
  · split
    · exact (Int.sign_eq_neg_one_of_neg (by assumption)).symm
    · have : x = 0 := by omega
      subst this; rfl
theorem k_compare : sp_compare.Ok 2 d_compare := by
  rintro ⟨x, y⟩ ⟨hx, hy⟩
  have hx : RSz 400000 x := hx
  have hy : RSz 400000 y := hy
  simp [entry, sp_compare, Spec.det]
  simp -dsimp [d_compare]
  refine ⟨hx.num.mulOk hy.den (by decide), hy.num.mulOk hx.den (by decide), ?_⟩
  simp only [cmpR, Rat.lt_iff]
  split
  · exact Int.sign_eq_neg_one_of_neg (by omega)
  · split
    · exact Int.sign_eq_one_of_pos (by omega)
    · rw [show x.num * (y.den : Int) - y.num * (x.den : Int) = 0 by omega]; rfl
theorem k_floor_of : sp_floor_of.Ok 1 d_floor_of := by
  intro (x : Rat) (h : RSz 9000 x)
  simp [entry, sp_floor_of, Spec.det]
  simp -dsimp [d_floor_of]
  refine ⟨h.den.divOk (by decide) (den_ne x), ?_⟩
  rw [Int.fdiv_eq_ediv_of_nonneg _ (by omega), Rat.floor_def]
theorem k_ceiling_of : sp_ceiling_of.Ok 1 d_ceiling_of := by
  intro (x : Rat) (h : RSz 9000 x)
  simp [entry, sp_ceiling_of, Spec.det]
  simp -dsimp [d_ceiling_of]
  refine ⟨h.den.divOk (by decide) (den_ne x), ?_⟩
  rw [Int.fdiv_eq_ediv_of_nonneg _ (by omega), Rat.ceil_eq_neg_floor_neg, Rat.floor_def]
  rfl
end Dn

set_option Elab.async false
set_option linter.all false
set_option maxRecDepth 100000
set_option maxHeartbeats 4000000
set_option exponentiation.threshold 1000000
/-! the laws' own helpers: specs -/
namespace Dn
open PySem PySem.Spec PyProof.Rows L2
def intsD (ns : List Int) : D := .frz (ns.map D.int)
theorem intsD_inj {a b : List Int} (h : intsD a = intsD b) : a = b := by
  unfold intsD at h
  rw [D.frz.injEq] at h
  exact (List.map_inj_right (fun x y e => by simpa using e)).mp h
def sp__law_cell : Spec := ⟨List Int × Int, fun x => [intsD x.1, .int x.2], fun x => x.1.length ≤ 63 ∧ 0 ≤ x.2 ∧ x.2 ≤ 2000, fun _ r => ∃ c : Int, r = .sh (.int c)⟩
def sp__law_take : SpecS := .det (Int × Int) (fun x => [.int x.1]) (fun x => [.int x.2]) (fun x => 0 < x.2 ∧ Sz 9000 x.2) (fun x => .sh (.int (x.1 % x.2))) (fun x => [.int (x.1 / x.2)])
def sp__law_big : Spec := ⟨List Int × Int × Int, fun x => [intsD x.1, .int x.2.1, .int x.2.2], fun x => x.1.length ≤ 63 ∧ 0 ≤ x.2.1 ∧ x.2.1 ≤ 1000 ∧ 0 ≤ x.2.2 ∧ x.2.2 ≤ 1000, fun _ r => ∃ c : Int, r = .fr [.int c]⟩
def sp__law_divisor : Spec := .det (Int × Int) (fun x => [.int x.1, .int x.2]) (fun x => Sz 9000 x.1 ∧ Sz 9000 x.2) fun x => .sh (.int (Int.gcd x.1 x.2))
def sp__law_ratio : Spec := .det (Int × Int) (fun x => [.int x.1, .int x.2]) (fun x => x.2 ≠ 0 ∧ Sz 9000 x.1 ∧ Sz 9000 x.2) fun x => .sh (frD (Rat.divInt x.1 x.2))
def sp__law_is_ratio : Spec := .det Rat (fun x => [frD x]) (fun x => RSz 9000 x) fun _ => .sh (.bl true)
section
variable {Q : Rv → Prop} {f : Fx Q} {QS : Rv → List D → Prop} {fs : Fx QS}
@[simp ↓] theorem c_law_take {n m : Int} : sp__law_take.Run [.int n] [.int m] QS fs = ((0 < m ∧ Sz 9000 m) ∧ QS (.sh (.int (n % m))) [.int (n / m)]) :=
  SpecS.det_run (fun x y h h' => by
    obtain ⟨a, b⟩ := x
    obtain ⟨c, d⟩ := y
    simp only [List.cons.injEq, D.int.injEq, and_true] at h h'
    rw [h, h']) (n, m)
@[simp ↓] theorem c_law_divisor {a b : Int} : sp__law_divisor.Run [.int a, .int b] Q f = ((Sz 9000 a ∧ Sz 9000 b) ∧ Q (.sh (.int (Int.gcd a b)))) := Spec.det_run (fun _ _ => inj_ii) (a, b)
@[simp ↓] theorem c_law_ratio {a b : Int} : sp__law_ratio.Run [.int a, .int b] Q f = ((b ≠ 0 ∧ Sz 9000 a ∧ Sz 9000 b) ∧ Q (.sh (frD (Rat.divInt a b)))) := Spec.det_run (fun _ _ => inj_ii) (a, b)
@[simp ↓] theorem c_law_is_ratio {a : Rat} : sp__law_is_ratio.Run [frD a] Q f = (RSz 9000 a ∧ Q (.sh (.bl true))) := Spec.det_run (A := Rat) (args := fun x => [frD x]) (fun x y h => by simpa using h) a
theorem c_law_cell {ns : List Int} {k : Int} (h : ns.length ≤ 63 ∧ 0 ≤ k ∧ k ≤ 2000) (q : ∀ c : Int, Q (.sh (.int c))) : sp__law_cell.Run [intsD ns, .int k] Q f :=
  Spec.go sp__law_cell (ns, k) rfl h fun r hr => by obtain ⟨c, rfl⟩ := hr; exact q c
theorem c_law_big {ns : List Int} {k m : Int} (h : ns.length ≤ 63 ∧ 0 ≤ k ∧ k ≤ 1000 ∧ 0 ≤ m ∧ m ≤ 1000) (q : ∀ c : Int, Q (.fr [.int c])) : sp__law_big.Run [intsD ns, .int k, .int m] Q f :=
  Spec.go sp__law_big (ns, k, m) rfl h fun r hr => by obtain ⟨c, rfl⟩ := hr; exact q c
end
end Dn

set_option Elab.async false
set_option linter.all false
set_option maxRecDepth 100000
set_option maxHeartbeats 4000000
set_option exponentiation.threshold 100000
/-! the laws' own helpers keep their promises -/
namespace Dn
open PySem PySem.Spec PyProof.Rows L2
def d__law_cell : DS :=
  (sSeq (sIf (tAnd (tB (eOp ltR (eVar 1) (eOp1 lenR (eVar 0)))) (tB (eOp geR (eOp ixR (eVar 0) (eVar 1)) (eOp powR (eC (.int 10)) (eC (.int 9)))))) (sRet (eOp ixR (eVar 0) (eVar 1))) sNext)
  (sSeq (sSet 2 (eOp addR (eOp mulR (eC (.int 7)) (eVar 1)) (eC (.int 1))))
  (sSeq (sIf (tB (eOp gtR (eOp1 lenR (eVar 0)) (eC (.int 0)))) (sSet 2 (eOp addR (eVar 2) (eOp mulR (eC (.int 31)) (eOp ixR (eVar 0) (eOp modR (eOp1 intR (eVar 1)) (eOp1 lenR (eVar 0))))))) sNext)
  (sSeq (sSet 2 (eOp modR (eOp1 intR (eOp addR (eOp mulR (eVar 2) (eC (.int 48271))) (eOp mulR (eC (.int 69621)) (eVar 1)))) (eC (.int 2147483647))))
  (sRet (eOp modR (eOp1 intR (eOp addR (eOp mulR (eVar 2) (eC (.int 69621))) (eOp mulR (eC (.int 48271)) (eOp fdivR (eVar 2) (eC (.int 1000)))))) (eC (.int 2147483629))))))))

def d__law_take : DS :=
  (sSeq (sSet 2 (eOp modR (eOp1 intR (eOp ixR (eVar 0) (eC (.int 0)))) (eVar 1)))
  (sSeq (sStore 0 (eOp1 intR (eOp fdivR (eOp ixR (eVar 0) (eC (.int 0))) (eVar 1))) (eC (.int 0)))
  (sRet (eVar 2))))

def d__law_big : DS :=
  (sSeq (sSet 3 (eC (.int 0)))
  (sSeq (sFor (iRange1 (aCons (eVar 2) aNil)) (gN 4) (sSet 3 (eOp addR (eOp mulR (eVar 3) (eC (.int 2147483648))) (eCall sp__law_cell (aCons (eVar 0) (aCons (eOp addR (eVar 1) (eVar 4)) aNil))))))
  (sRet (eLst (aCons (eVar 3) aNil)))))

def d__law_divisor : DS :=
  (sSeq (sSet 0 (eOp1 absR (eVar 0)))
  (sSeq (sSet 1 (eOp1 absR (eVar 1)))
  (sSeq (sFor (iRange1 (aCons (eC (.int 20000)) aNil)) (gN 2) (sSeq (sIf (tB (eOp eqR (eVar 1) (eC (.int 0)))) sBrk sNext)
  (sPar 0 1 (aCons (eVar 1) (aCons (eOp modR (eOp1 intR (eVar 0)) (eVar 1)) aNil)))))
  (sRet (eVar 0)))))

def d__law_ratio : DS :=
  (sSeq (sSet 2 (eCall sp__law_divisor (aCons (eVar 0) (aCons (eVar 1) aNil))))
  (sSeq (sIf (tB (eOp ltR (eVar 1) (eC (.int 0)))) (sSet 2 (eOp1 negR (eVar 2))) sNext)
  (sRet (eTup (aCons (eOp1 intR (eOp fdivR (eVar 0) (eVar 2))) (aCons (eOp1 intR (eOp fdivR (eVar 1) (eVar 2))) aNil))))))

def d__law_is_ratio : DS :=
  (sSeq (sIf (tOr (tNot (tTru (eOp1 (isiR .tuple) (eVar 0)))) (tOr (tB (eOp neR (eOp1 lenR (eVar 0)) (eC (.int 2)))) (tB (eOp inR (eC (.bl false)) (eLc (iSeq (eVar 0)) (CT.one 1) tYesD (eAnd (eOp1 (isiR .int) (eVar 1)) (eNot (eOp1 (isiR .bool) (eVar 1)))) [1]))))) (sRet (eC (.bl false))) sNext)
  (sRet (eAnd (eOp gtR (eOp ixR (eVar 0) (eC (.int 1))) (eC (.int 0))) (eOp eqR (eCall sp__law_divisor (aCons (eOp ixR (eVar 0) (eC (.int 0))) (aCons (eOp ixR (eVar 0) (eC (.int 1))) aNil))) (eC (.int 1))))))

@[simp] theorem len_ints {ns : List Int} : lenR (intsD ns) = (True, .sh (.int ns.length)) := by simp [intsD]
theorem ix_ints {ns : List Int} {k : Int} (h0 : 0 ≤ k) (h : k < ns.length) : ixR (intsD ns) (.int k) = (True, .sh (.int (ns[k.toNat]'(by omega)))) := by
  have : k.toNat < ns.length := by omega
  simp [intsD, atI_nn _ h0, this]
theorem divSmall {i j : Int} (h0 : j ≠ 0) (h : j.natAbs < 2 ^ 64) : DivOk i j := Sz.divOk (n := 9000) (Sz.up (n := 64) h (by decide)) (by decide) h0
theorem k__law_cell : sp__law_cell.Ok 3 d__law_cell := by
  rintro ⟨ns, k⟩ ⟨h1, h2, h3⟩
  have h1 : ns.length ≤ 63 := h1
  have h2 : 0 ≤ k := h2
  have h3 : k ≤ 2000 := h3
  have m1 : IntMulOk 7 k := mulOkL (by decide)
  have m2 : ∀ x, IntMulOk 31 x := fun x => mulOkL (by decide)
  have m3 : ∀ x, IntMulOk x 48271 := fun x => mulOkR (by decide)
  have m4 : ∀ x, IntMulOk 69621 x := fun x => mulOkL (by decide)
  have m5 : ∀ x, IntMulOk x 69621 := fun x => mulOkR (by decide)
  have m6 : ∀ x, IntMulOk 48271 x := fun x => mulOkL (by decide)
  have d1 : ∀ x, DivOk x 1000 := fun x => divSmall (by decide) (by decide)
  simp [entry, sp__law_cell]
  have tail : 0 < ns.length → ∃ c : Int, ixR (intsD ns) (.int (k.fmod ns.length)) = (True, .sh (.int c)) := fun h => by
    have a : 0 ≤ k.fmod ns.length := Int.fmod_nonneg_of_pos _ (by omega)
    have b : k.fmod ns.length < ns.length := Int.fmod_lt_of_pos _ (by omega)
    exact ⟨_, ix_ints a b⟩
  by_cases hk : k < ns.length
  · have e := ix_ints h2 hk
    obtain ⟨c, hc⟩ := tail (by omega)
    have hl : ¬ ns.length = 0 := by omega
    by_cases hb : (1000000000 : Int) ≤ ns[k.toNat]'(by omega)
    · simp -dsimp [d__law_cell, hk, e, hb]
    · simp -dsimp [d__law_cell, hk, e, hb, hc, m1, m2, m3, m4, m5, m6, d1, show 0 < ns.length by omega, hl]
  · by_cases hz : 0 < ns.length
    · obtain ⟨c, hc⟩ := tail hz
      have hl : ¬ ns.length = 0 := by omega
      simp -dsimp [d__law_cell, hk, hz, hc, m1, m2, m3, m4, m5, m6, d1, hl]
    · simp -dsimp [d__law_cell, hk, hz, m1, m2, m3, m4, m5, m6, d1]
theorem k__law_take : sp__law_take.Ok 3 d__law_take := by
  rintro ⟨n, m⟩ ⟨h0, hs⟩
  have h0 : 0 < m := h0
  have hs : Sz 9000 m := hs
  have hd : DivOk n m := hs.divOk (by decide) (by omega)
  simp [entryS, sp__law_take, SpecS.det]
  simp -dsimp [d__law_take, hd, ixN]
  refine ⟨by omega, ?_, ?_⟩
  · exact Int.fmod_eq_emod_of_nonneg _ (by omega)
  · exact Int.fdiv_eq_ediv_of_nonneg _ (by omega)
theorem k__law_big : sp__law_big.Ok 5 d__law_big := by
  rintro ⟨ns, k, m⟩ ⟨h1, h2, h3, h5, h4⟩
  have h1 : ns.length ≤ 63 := h1
  have h2 : 0 ≤ k := h2
  have h3 : k ≤ 1000 := h3
  have h5 : 0 ≤ m := h5
  have h4 : m ≤ 1000 := h4
  obtain ⟨m, rfl⟩ := Int.eq_ofNat_of_zero_le h5
  have m1 : ∀ x, IntMulOk x 2147483648 := fun x => mulOkR (by decide)
  simp [entry, sp__law_big]
  simp -dsimp [d__law_big]
  refine for_range (n := m) (by omega) (fun QA => by simp) (fun _ e => ∃ c s, e = [.sh (intsD ns), .sh (.int k), .sh (.int m), .sh (.int c), s]) ⟨_, _, rfl⟩ ?_ ?_
  · rintro j hj e ⟨c, s, rfl⟩
    simp -dsimp [m1]
    refine c_law_cell ⟨h1, by omega, by omega⟩ fun c => ?_
    simp -dsimp
  · rintro e ⟨c, s, rfl⟩
    simp -dsimp
theorem k__law_divisor : sp__law_divisor.Ok 3 d__law_divisor := by
  rintro ⟨a, b⟩ ⟨ha, hb⟩
  have ha : a.natAbs < 2 ^ 9000 := ha
  have hb : b.natAbs < 2 ^ 9000 := hb
  simp [entry, sp__law_divisor, Spec.det]
  simp -dsimp [d__law_divisor, abs_eq]
  obtain ⟨B, hB⟩ : ∃ B : Nat, B = 2 ^ 18001 := ⟨_, rfl⟩
  refine for_range (n := 20000) (by decide) (fun QA => by simp) (fun k e => ∃ (x y : Nat) (s : Sl), e = [.sh (.int x), .sh (.int y), s] ∧ Nat.gcd x y = Int.gcd a b ∧ ((k = 0 ∧ y < 2 ^ 9000) ∨ (y < x ∧ x * y * 2 ^ k ≤ B))) ⟨_, _, _, rfl, rfl, .inl ⟨rfl, hb⟩⟩ ?_ ?_
  · rintro j hj e ⟨x, y, s, rfl, hg, h⟩
    by_cases hy : y = 0
    · subst hy
      rw [Nat.gcd_zero_right] at hg
      simp -dsimp [hg]
    · simp -dsimp [hy]
      have hxy : (x : Int).fmod (y : Int) = ((x % y : Nat) : Int) := by rw [Int.fmod_eq_emod_of_nonneg _ (by omega)]; rfl
      have hm : x % y < y := Nat.mod_lt _ (by omega)
      refine ⟨y, x % y, ⟨rfl, hxy⟩, ?_, hm, ?_⟩
      · rw [← hg, Nat.gcd_comm x y, Nat.gcd_rec y x, Nat.gcd_comm]
      · rcases h with ⟨rfl, h⟩ | ⟨h1, h2⟩
        · subst hB
          have e1 : y * (x % y) ≤ 2 ^ 9000 * 2 ^ 9000 := Nat.mul_le_mul (by omega) (by omega)
          rw [← Nat.pow_add] at e1
          rw [show (18001 : Nat) = 9000 + 9000 + 1 from rfl, Nat.pow_succ (n := 2) (m := 9000 + 9000), Nat.zero_add, Nat.pow_one]
          exact Nat.mul_le_mul_right _ e1
        · refine Nat.le_trans ?_ h2
          have e2 : 2 * (x % y) ≤ x := by
            have := Nat.mod_add_div x y
            have : y * 1 ≤ y * (x / y) := Nat.mul_le_mul_left _ (Nat.div_pos (by omega) (by omega))
            omega
          calc y * (x % y) * 2 ^ (j + 1) = 2 * (x % y) * (y * 2 ^ j) := by rw [Nat.pow_succ]; ac_rfl
            _ ≤ x * (y * 2 ^ j) := Nat.mul_le_mul_right _ e2
            _ = x * y * 2 ^ j := by ac_rfl
  · rintro e ⟨x, y, s, rfl, hg, h⟩
    have hy : y = 0 := by
      rcases h with ⟨h, _⟩ | ⟨h1, h2⟩
      · cases h
      · refine Nat.eq_zero_of_not_pos fun hp => ?_
        have h3 : 1 * 2 ^ 20000 ≤ x * y * 2 ^ 20000 := Nat.mul_le_mul_right _ (Nat.mul_pos (by omega) hp)
        rw [hB] at h2
        have h4 : 2 ^ 18001 < 2 ^ 20000 := Nat.pow_lt_pow_right (by decide) (by decide)
        omega
    subst hy
    rw [Nat.gcd_zero_right] at hg
    simp -dsimp [hg]
theorem k__law_ratio : sp__law_ratio.Ok 3 d__law_ratio := by
  rintro ⟨p, q⟩ ⟨h0, hp, hs⟩
  have h0 : q ≠ 0 := h0
  have hp : Sz 9000 p := hp
  have hs : Sz 9000 q := hs
  simp [entry, sp__law_ratio, Spec.det]
  simp -dsimp [d__law_ratio, hp, hs]
  have hg : Int.gcd p q ≠ 0 := fun e => h0 (Int.gcd_eq_zero_iff.mp e).2
  have hz : (Int.gcd p q : Int).natAbs ≤ q.natAbs := by
    have := Nat.le_of_dvd (by omega) (Int.gcd_dvd_natAbs_right p q)
    omega
  have dp : (Int.gcd p q : Int) ∣ p := Int.gcd_dvd_left ..
  have dq : (Int.gcd p q : Int) ∣ q := Int.gcd_dvd_right ..
  by_cases hq : q < 0
  · have hd : ∀ i : Int, DivOk i (-(Int.gcd p q : Int)) := fun i => Sz.divOk (n := 9000) (Sz.le hs (by omega)) (by decide) (by omega)
    simp -dsimp [hq, hd]
    unfold frD
    rw [Rat.num_divInt, Rat.den_divInt, if_neg h0, Int.sign_eq_neg_one_of_neg hq, Int.gcd_comm q p]
    simp only [D.tup.injEq, List.cons.injEq, D.int.injEq, and_true]
    refine ⟨?_, ?_⟩
    · rw [Int.fdiv_eq_ediv_of_dvd ((Int.neg_dvd).mpr dp), Int.ediv_neg, Int.neg_mul, Int.one_mul, Int.neg_ediv_of_dvd dp]
    · rw [Int.fdiv_eq_ediv_of_dvd ((Int.neg_dvd).mpr dq), Int.ediv_neg, ← Int.neg_ediv_of_dvd dq, Int.natCast_ediv]
      congr 1
      omega
  · have hd : ∀ i : Int, DivOk i (Int.gcd p q : Int) := fun i => Sz.divOk (n := 9000) (Sz.le hs (by omega)) (by decide) (by omega)
    simp -dsimp [hq, hd]
    unfold frD
    rw [Rat.num_divInt, Rat.den_divInt, if_neg h0, Int.sign_eq_one_of_pos (by omega), Int.gcd_comm q p]
    simp only [D.tup.injEq, List.cons.injEq, D.int.injEq, and_true]
    refine ⟨?_, ?_⟩
    · rw [Int.fdiv_eq_ediv_of_dvd dp, Int.one_mul]
    · rw [Int.fdiv_eq_ediv_of_dvd dq, Int.natCast_ediv]
      congr 1
      omega
@[simp] theorem isi_fr {T : Ty5} {x : Rat} : isiR T (frD x) = (True, .sh (.bl (match T with | .tuple => true | _ => false))) := rfl
@[simp] theorem truD_fr {x : Rat} : truD (frD x) = (True, true) := rfl
@[simp] theorem iseq_fr {x : Rat} {i : Nat} {env : En} {Q : List D → En → Prop} (h : env[i]? = some (.sh (frD x))) : (iSeq (eVar i)).run env Q = Q [.int x.num, .int x.den] env := by
  rw [r_iSeq, r_var, h]
  rfl
theorem k__law_is_ratio : sp__law_is_ratio.Ok 2 d__law_is_ratio := by
  intro (x : Rat) (h : RSz 9000 x)
  have h1 : Sz 9000 x.num := h.num
  have h2 : Sz 9000 (x.den : Int) := h.den
  simp [entry, sp__law_is_ratio, Spec.det]
  have hg : Int.gcd x.num x.den = 1 := x.reduced
  simp -dsimp [d__law_is_ratio, isi_fr, holdR, look, truD_fr]
  refine lc_map [.int x.num, .int x.den] [.bl true, .bl true] rfl (by decide) (fun Q => iseq_fr rfl) (by simp) (fun k hk => ?_) ?_
  · match k, hk with
    | 0, _ => simp -dsimp
    | 1, _ => simp -dsimp
  · have e : inD (.bl false) [.bl true, .bl true] = false := by decide +kernel
    have hd : 0 < x.den := by have := x.den_nz; omega
    simp -dsimp [D.flat, e, h1, h2, hg, hd]
end Dn

set_option Elab.async false
set_option linter.all false
set_option maxRecDepth 100000
set_option maxHeartbeats 4000000
/-! k02: the simplest fraction between two, specs and plain law -/
namespace Dn
open PySem PySem.Spec PyProof.Rows L2
/-- parents in the tree of fractions -/
def Par (lo hi s : Rat) : Prop := ∃ c d e f : Int, 0 ≤ d ∧ 0 ≤ f ∧ e * d - c * f = 1 ∧ s.num = c + e ∧ (s.den : Int) = d + f ∧ (c : Rat) ≤ lo * d ∧ hi * f ≤ (e : Rat) ∧ ((0 ≤ c ∧ 0 ≤ e) ∨ (c ≤ 0 ∧ e ≤ 0)) ∧ (0 ≤ lo → 0 ≤ c ∧ 0 ≤ e)
def Simp (lo hi s : Rat) : Prop := lo < s ∧ s < hi ∧ ((lo < 0 ∧ 0 < hi ∧ s = 0) ∨ Par lo hi s)
/-- how far the calls go -/
def pot (w : Int) (r : Rat) : Nat := (r.num - w * r.den).natAbs * r.den
def deep (k : Nat) (lo hi : Rat) : Prop := ((lo.floor + 1 : Int) : Rat) < hi ∨ (pot lo.floor lo < 2 ^ k ∧ pot lo.floor hi < 2 ^ k)
def sp_simplest_between (k : Nat) : Spec := ⟨Rat × Rat, fun x => [frD x.1, frD x.2], fun x => 0 < k ∧ RSz 100 x.1 ∧ RSz 100 x.2 ∧ x.1 < x.2 ∧ deep (k - 1) x.1 x.2, fun x r => ∃ s, r = .sh (frD s) ∧ Simp x.1 x.2 s⟩
def sp__law_simplest : Spec := ⟨Rat × Rat × Rat, fun x => [frD x.1, frD x.2.1], fun x => RSz 100 x.1 ∧ RSz 100 x.2.1 ∧ x.1 < x.2.1 ∧ Simp x.1 x.2.1 x.2.2 ∧ x.2.2.den < 300000, fun x r => r = .sh (frD x.2.2)⟩
def sp_law : Spec := lawSpec
/-! ### the plain law -/
theorem den_pos (r : Rat) : (0 : Int) < r.den := by have := r.den_nz; omega
theorem ratDen (r : Rat) : (0 : Rat) < (r.den : Rat) := by rw [Rat.natCast_pos]; exact Nat.pos_of_ne_zero r.den_nz
theorem num_eq (r : Rat) : (r.num : Rat) = r * ((r.den : Int) : Rat) := by
  have h : (((r.den : Int)) : Rat) ≠ 0 := fun e => by
    have := congrArg Rat.num e
    simp only [Rat.num_intCast, Rat.zero_num] at this
    exact den_ne r this
  conv => rhs; lhs; rw [← Rat.num_divInt_den r]
  rw [Rat.divInt_eq_div, Rat.div_mul_cancel h]
/-- inside the parents: a sum of both -/
theorem par_min {lo hi s t : Rat} (h : Par lo hi s) (h1 : lo < t) (h2 : t < hi) : s.den ≤ t.den ∧ s.num.natAbs ≤ t.num.natAbs := by
  obtain ⟨c, d, e, f, hd, hf, hdet, hn, hD, hl, hr, hs, _⟩ := h
  have htd : (0 : Rat) < (t.den : Int) := Rat.intCast_pos.mpr (den_pos t)
  have dle : 0 < d ∨ d = 0 := by omega
  have fle : 0 < f ∨ f = 0 := by omega
  have hx : 0 < e * t.den - f * t.num := by
    rcases fle with fp | f0
    · have a : t * f < (e : Rat) := by
        have : t * f < hi * f := (Rat.mul_lt_mul_right (Rat.intCast_pos.mpr fp)).mpr h2
        grind
      have b : t * f * ((t.den : Int) : Rat) < (e : Rat) * ((t.den : Int) : Rat) := (Rat.mul_lt_mul_right htd).mpr a
      have g : ((f * t.num : Int) : Rat) < ((e * t.den : Int) : Rat) := by
        rw [Rat.intCast_mul, Rat.intCast_mul, num_eq t]
        grind
      have := Rat.intCast_lt_intCast.mp g
      omega
    · subst f0
      have he : 0 < e := by
        have : e * d = 1 := by omega
        by_cases e0 : 0 < e
        · exact e0
        · have : e * d ≤ 0 := Int.mul_nonpos_of_nonpos_of_nonneg (by omega) hd
          omega
      have := Int.mul_pos he (den_pos t)
      omega
  have hy : 0 < d * t.num - c * t.den := by
    rcases dle with dp | d0
    · have a : (c : Rat) < t * d := by
        have : lo * d < t * d := (Rat.mul_lt_mul_right (Rat.intCast_pos.mpr dp)).mpr h1
        grind
      have b : (c : Rat) * ((t.den : Int) : Rat) < t * d * ((t.den : Int) : Rat) := (Rat.mul_lt_mul_right htd).mpr a
      have g : ((c * t.den : Int) : Rat) < ((d * t.num : Int) : Rat) := by
        rw [Rat.intCast_mul, Rat.intCast_mul, num_eq t]
        grind
      have := Rat.intCast_lt_intCast.mp g
      omega
    · subst d0
      have hc : c < 0 := by
        have : c * f = -1 := by omega
        by_cases e0 : c < 0
        · exact e0
        · have : 0 ≤ c * f := Int.mul_nonneg (by omega) hf
          omega
      have := Int.mul_neg_of_neg_of_pos hc (den_pos t)
      omega
  obtain ⟨x, hx'⟩ : ∃ x, x = e * t.den - f * t.num := ⟨_, rfl⟩
  obtain ⟨y, hy'⟩ : ∃ y, y = d * t.num - c * t.den := ⟨_, rfl⟩
  have q1 : (t.den : Int) = x * d + y * f := by
    subst hx' hy'
    have : (e * t.den - f * t.num) * d + (d * t.num - c * t.den) * f = (e * d - c * f) * t.den := by grind
    rw [this, hdet]; omega
  have p1 : t.num = x * c + y * e := by
    subst hx' hy'
    have : (e * t.den - f * t.num) * c + (d * t.num - c * t.den) * e = (e * d - c * f) * t.num := by grind
    rw [this, hdet]; omega
  have x1 : 1 ≤ x := by omega
  have y1 : 1 ≤ y := by omega
  refine ⟨?_, ?_⟩
  · have a : 1 * d ≤ x * d := Int.mul_le_mul_of_nonneg_right x1 hd
    have b : 1 * f ≤ y * f := Int.mul_le_mul_of_nonneg_right y1 hf
    omega
  · rcases hs with ⟨hc, he⟩ | ⟨hc, he⟩
    · have a : 1 * c ≤ x * c := Int.mul_le_mul_of_nonneg_right x1 hc
      have b : 1 * e ≤ y * e := Int.mul_le_mul_of_nonneg_right y1 he
      omega
    · have a : x * c ≤ 1 * c := Int.mul_le_mul_of_nonpos_right x1 hc
      have b : y * e ≤ 1 * e := Int.mul_le_mul_of_nonpos_right y1 he
      omega
theorem simp_min {lo hi s t : Rat} (h : Simp lo hi s) (h1 : lo < t) (h2 : t < hi) : s.den ≤ t.den ∧ s.num.natAbs ≤ t.num.natAbs := by
  obtain ⟨_, _, h | h⟩ := h
  · obtain ⟨_, _, rfl⟩ := h
    have := t.den_nz
    refine ⟨by simp; omega, by simp⟩
  · exact par_min h h1 h2
end Dn

set_option Elab.async false
set_option linter.all false
set_option maxRecDepth 100000
set_option maxHeartbeats 4000000
namespace Dn
theorem cop (w : Int) (r : Rat) : (w * r.den + r.num).natAbs.gcd r.den = 1 := by
  have h := r.reduced
  unfold Nat.Coprime at h
  have e : (w * r.den + r.num).gcd (r.den : Int) = r.num.gcd (r.den : Int) := Int.gcd_mul_right_add_left ..
  rw [Int.gcd_eq_natAbs_gcd_natAbs, Int.gcd_eq_natAbs_gcd_natAbs, Int.natAbs_natCast] at e
  rw [e]; exact h
theorem add_int (w : Int) (r : Rat) : ((w : Rat) + r).num = w * r.den + r.num ∧ ((w : Rat) + r).den = r.den := by
  have h : (w : Rat) + r = ⟨w * r.den + r.num, r.den, r.den_nz, cop w r⟩ := by
    rw [Rat.eq_iff_mul_eq_mul, Rat.num_add, Rat.den_add]
    simp [cop w r]
  rw [h]
  exact ⟨rfl, rfl⟩
theorem sub_int (w : Int) (r : Rat) : (r - (w : Rat)).num = r.num - w * r.den ∧ (r - (w : Rat)).den = r.den := by
  have := add_int (-w) r
  have e : ((-w : Int) : Rat) + r = r - (w : Rat) := by rw [Rat.intCast_neg]; grind
  rw [e] at this
  refine ⟨?_, this.2⟩
  rw [this.1, Int.neg_mul]
  omega
theorem num_pos' (r : Rat) (h : 0 < r) : 0 < r.num := by
  have := Rat.lt_iff 0 r
  simp at this
  exact this.mp h
theorem inv_pos' (r : Rat) (h : 0 < r) : (1 / r).num = r.den ∧ ((1 / r).den : Int) = r.num := by
  have hn := num_pos' r h
  have e : 1 / r = r⁻¹ := by rw [Rat.div_def, Rat.one_mul]
  rw [e, Rat.num_inv, Rat.den_inv, if_neg (by omega), Int.sign_eq_one_of_pos hn]
  omega
theorem toRat1 : ((1 : Int) : Rat) = 1 := rfl
theorem toRat0 : ((0 : Int) : Rat) = 0 := rfl
theorem floorLo (r : Rat) : (r.floor : Rat) ≤ r ∧ r < (r.floor : Rat) + 1 := by
  refine ⟨Rat.floor_le r, ?_⟩
  have := Rat.lt_floor_add_one r
  rwa [Rat.intCast_add, toRat1] at this
theorem ceilLo (r : Rat) : r ≤ (r.ceil : Rat) ∧ (r.ceil : Rat) - 1 < r := by
  refine ⟨Rat.le_ceil, ?_⟩
  have : (r.ceil - 1 : Int) < r.ceil := by omega
  have := Rat.lt_ceil_iff.mp this
  rwa [Rat.intCast_sub, toRat1] at this
theorem simp0 {lo hi : Rat} (h1 : lo < 0) (h2 : 0 < hi) : Simp lo hi 0 := ⟨h1, h2, .inl ⟨h1, h2, rfl⟩⟩
theorem simpUp {lo hi : Rat} (h : ((lo.floor + 1 : Int) : Rat) < hi) (h0 : 0 ≤ lo) : Simp lo hi ((lo.floor + 1 : Int) : Rat) := by
  have f := floorLo lo
  have hf : 0 ≤ lo.floor := Rat.le_floor_iff.mpr h0
  refine ⟨Rat.lt_floor_add_one lo, h, .inr ⟨lo.floor, 1, 1, 0, by decide, by decide, by omega, rfl, rfl, ?_, ?_, .inl ⟨hf, by decide⟩, fun _ => ⟨hf, by decide⟩⟩⟩
  · rw [toRat1, Rat.mul_one]; exact f.1
  · rw [toRat0, Rat.mul_zero, toRat1]; decide
theorem simpDown {lo hi : Rat} (h : ((lo.floor + 1 : Int) : Rat) < hi) (h0 : hi ≤ 0) (hl : lo < hi) : Simp lo hi ((hi.ceil - 1 : Int) : Rat) := by
  have f := floorLo lo
  have g := ceilLo hi
  have hc : hi.ceil ≤ 0 := Rat.ceil_le_iff.mpr h0
  have hk : lo.floor + 1 < hi.ceil := Rat.lt_ceil_iff.mpr h
  refine ⟨?_, ?_, .inr ⟨-1, 0, hi.ceil, 1, by decide, by decide, by omega, ?_, rfl, ?_, ?_, .inr ⟨by decide, hc⟩, fun h => ?_⟩⟩
  · have : ((lo.floor + 1 : Int) : Rat) ≤ ((hi.ceil - 1 : Int) : Rat) := Rat.intCast_le_intCast.mpr (by omega)
    have := Rat.lt_floor_add_one lo
    grind
  · rw [Rat.intCast_sub, toRat1]; exact g.2
  · rw [Rat.num_intCast]; omega
  · rw [toRat0, Rat.mul_zero]; decide
  · rw [toRat1, Rat.mul_one]; exact g.1
  · exact absurd (Rat.lt_irrefl (a := hi)) (by grind)
/-- the first number's whole part is the number -/
theorem simpOne {lo hi : Rat} (w : Int) (hw : lo = (w : Rat)) (hl : lo < hi) (hh : hi ≤ (w : Rat) + 1) (n : Int) (hn : n = (1 / (hi - (w : Rat))).floor) : 1 ≤ n ∧ Simp lo hi ((w : Rat) + 1 / ((n + 1 : Int) : Rat)) := by
  have p : 0 < hi - (w : Rat) := by grind
  have fl := floorLo (1 / (hi - (w : Rat)))
  rw [← hn] at fl
  have n1 : 1 ≤ n := by
    rw [hn]
    refine Rat.le_floor_iff.mpr ?_
    rw [toRat1]
    by_cases q : 1 ≤ 1 / (hi - (w : Rat))
    · exact q
    · have := (Rat.div_lt_iff p).mp (Rat.not_le.mp q)
      grind
  have k1 : (1 : Rat) < ((n + 1 : Int) : Rat) * (hi - (w : Rat)) := by
    have := (Rat.div_lt_iff p).mp fl.2
    rw [Rat.intCast_add, toRat1]; exact this
  have k2 : (n : Rat) * (hi - (w : Rat)) ≤ 1 := by
    have h1 : (n : Rat) * (hi - (w : Rat)) ≤ 1 / (hi - (w : Rat)) * (hi - (w : Rat)) := Rat.mul_le_mul_of_nonneg_right fl.1 (Rat.le_of_lt p)
    rwa [Rat.div_mul_cancel (by grind)] at h1
  have np : (0 : Rat) < ((n + 1 : Int) : Rat) := Rat.intCast_pos.mpr (by omega)
  have iv : 0 < 1 / ((n + 1 : Int) : Rat) := (Rat.lt_div_iff np).mpr (by rw [Rat.zero_mul]; decide)
  obtain ⟨i1, i2⟩ := inv_pos' _ np
  rw [Rat.den_intCast] at i1
  rw [Rat.num_intCast] at i2
  obtain ⟨a1, a2⟩ := add_int w (1 / ((n + 1 : Int) : Rat))
  refine ⟨n1, ?_, ?_, .inr ⟨w, 1, w * n + 1, n, by decide, by omega, ?_, ?_, ?_, ?_, ?_, ?_, ?_⟩⟩
  · rw [hw]; grind
  · have : 1 / ((n + 1 : Int) : Rat) < hi - (w : Rat) := (Rat.div_lt_iff' np).mpr k1
    grind
  · grind
  · rw [a1, i1, i2, Int.mul_add]; omega
  · rw [a2, i2]; omega
  · rw [toRat1, Rat.mul_one, hw]; exact Rat.le_refl
  · rw [Rat.intCast_add, Rat.intCast_mul, toRat1]
    grind
  · by_cases h : 0 ≤ w
    · exact .inl ⟨h, by have := Int.mul_nonneg h (show 0 ≤ n by omega); omega⟩
    · refine .inr ⟨by omega, ?_⟩
      have : w * n ≤ -1 * n := Int.mul_le_mul_of_nonneg_right (by omega) (by omega)
      omega
  · intro h
    rw [hw] at h
    have h := Rat.intCast_nonneg.mp h
    exact ⟨h, by have := Int.mul_nonneg h (show 0 ≤ n by omega); omega⟩
/-- one step of the fraction's chain -/
theorem simpStep {lo hi s : Rat} (w : Int) (h1 : (w : Rat) < lo) (hl : lo < hi) (hh : hi ≤ (w : Rat) + 1) (h : Simp (1 / (hi - (w : Rat))) (1 / (lo - (w : Rat))) s) : 0 < s ∧ Simp lo hi ((w : Rat) + 1 / s) := by
  have p1 : 0 < lo - (w : Rat) := by grind
  have p2 : 0 < hi - (w : Rat) := by grind
  obtain ⟨s1, s2, s3⟩ := h
  have u1 : 0 < 1 / (hi - (w : Rat)) := (Rat.lt_div_iff p2).mpr (by rw [Rat.zero_mul]; decide)
  have sp : 0 < s := by grind
  have r1 : 1 < s * (hi - (w : Rat)) := (Rat.div_lt_iff p2).mp s1
  have r2 : s * (lo - (w : Rat)) < 1 := (Rat.lt_div_iff p1).mp s2
  have v1 : 1 / s < hi - (w : Rat) := (Rat.div_lt_iff' sp).mpr r1
  have v2 : lo - (w : Rat) < 1 / s := (Rat.lt_div_iff' sp).mpr r2
  rcases s3 with ⟨a, _, _⟩ | s3
  · grind
  obtain ⟨c, d, e, f, hd, hf, hdet, hn, hD, q1, q2, _, q4⟩ := s3
  obtain ⟨hc, he⟩ := q4 (Rat.le_of_lt u1)
  obtain ⟨i1, i2⟩ := inv_pos' s sp
  obtain ⟨a1, a2⟩ := add_int w (1 / s)
  have cd : (0 : Rat) ≤ (c : Rat) := Rat.intCast_nonneg.mpr hc
  have fd : (0 : Rat) ≤ (f : Rat) := Rat.intCast_nonneg.mpr hf
  have m1 : (c : Rat) * (hi - (w : Rat)) ≤ d := by
    have := Rat.mul_le_mul_of_nonneg_right q1 (Rat.le_of_lt p2)
    have e : 1 / (hi - (w : Rat)) * (hi - (w : Rat)) = 1 := Rat.div_mul_cancel (by grind)
    rwa [Rat.mul_assoc, Rat.mul_comm (d : Rat), ← Rat.mul_assoc, e, Rat.one_mul] at this
  have m2 : (f : Rat) ≤ e * (lo - (w : Rat)) := by
    have := Rat.mul_le_mul_of_nonneg_right q2 (Rat.le_of_lt p1)
    have e' : 1 / (lo - (w : Rat)) * (lo - (w : Rat)) = 1 := Rat.div_mul_cancel (by grind)
    rwa [Rat.mul_assoc, Rat.mul_comm (f : Rat), ← Rat.mul_assoc, e', Rat.one_mul] at this
  have s1' : 1 < s := by
    have : s * (hi - (w : Rat)) ≤ s * 1 := Rat.mul_le_mul_of_nonneg_left (by grind) (Rat.le_of_lt sp)
    grind
  have snd : (s.den : Int) < s.num := by
    have := (Rat.lt_iff 1 s).mp s1'
    simp only [Rat.one_num, Rat.one_den] at this
    omega
  have hfe : f ≤ e := by
    by_cases q : f ≤ e
    · exact q
    · have b1 : e * d ≤ e * (c - 1) := Int.mul_le_mul_of_nonneg_left (by omega) he
      have b2 : c * (e + 1) ≤ c * f := Int.mul_le_mul_of_nonneg_left (by omega) hc
      grind
  have hdc : d ≤ c := by
    by_cases q : d ≤ c
    · exact q
    · have b1 : e * (c + 1) ≤ e * d := Int.mul_le_mul_of_nonneg_left (by omega) he
      have b2 : c * f ≤ c * (e - 2) := Int.mul_le_mul_of_nonneg_left (by omega) hc
      grind
  have hcd : w < 0 → w * c + d ≤ 0 := fun hw => by
    have : w * c ≤ -1 * c := Int.mul_le_mul_of_nonneg_right (by omega) hc
    omega
  refine ⟨sp, by grind, by grind, .inr ⟨w * e + f, e, w * c + d, c, he, hc, by grind, ?_, ?_, ?_, ?_, ?_, ?_⟩⟩
  · rw [a1, i1, i2, hn, hD]; grind
  · rw [a2, i2, hn]; omega
  · rw [Rat.intCast_add, Rat.intCast_mul]; grind
  · rw [Rat.intCast_add, Rat.intCast_mul]; grind
  · by_cases h : 0 ≤ w
    · exact .inl ⟨by have := Int.mul_nonneg h he; omega, by have := Int.mul_nonneg h hc; omega⟩
    · refine .inr ⟨?_, hcd (by omega)⟩
      have : w * e ≤ -1 * e := Int.mul_le_mul_of_nonneg_right (by omega) he
      omega
  · intro h
    have hw : 0 ≤ w := by
      rcases Int.lt_or_le w 0 with q | q
      · have : (w : Rat) + 1 ≤ 0 := by
          have := Rat.intCast_le_intCast.mpr (show w + 1 ≤ 0 by omega)
          rwa [Rat.intCast_add, toRat1, toRat0] at this
        grind
      · exact q
    exact ⟨by have := Int.mul_nonneg hw he; omega, by have := Int.mul_nonneg hw hc; omega⟩
end Dn

set_option Elab.async false
set_option linter.all false
set_option maxRecDepth 100000
set_option maxHeartbeats 4000000
namespace Dn
open PySem PySem.Spec PyProof.Rows L2
theorem potStep {lo hi : Rat} {k : Nat} (h1 : (lo.floor : Rat) < lo) (hl : lo < hi) (hh : hi ≤ (lo.floor : Rat) + 1) (p1 : pot lo.floor lo < 2 ^ k) (p2 : pot lo.floor hi < 2 ^ k) :
    0 < k ∧ deep (k - 1) (1 / (hi - (lo.floor : Rat))) (1 / (lo - (lo.floor : Rat))) := by
  have fl := (floorLo lo).2
  generalize lo.floor = w at *
  have q1 : 0 < lo - (w : Rat) := by grind
  have q2 : 0 < hi - (w : Rat) := by grind
  obtain ⟨a, a'⟩ := sub_int w lo
  obtain ⟨c, c'⟩ := sub_int w hi
  obtain ⟨i1, i2⟩ := inv_pos' _ q1
  obtain ⟨j1, j2⟩ := inv_pos' _ q2
  have ap := num_pos' _ q1
  have cp := num_pos' _ q2
  unfold pot at p1 p2
  rw [← a] at p1
  rw [← c] at p2
  -- the first part is below its den, the second at most
  have al : (lo - (w : Rat)).num < lo.den := by
    have := (Rat.lt_iff (lo - (w : Rat)) 1).mp (by grind)
    simp only [Rat.one_num, Rat.one_den, a'] at this
    omega
  have cl : (hi - (w : Rat)).num ≤ hi.den := by
    have := (Rat.le_iff (hi - (w : Rat)) 1).mp (by grind)
    simp only [Rat.one_num, Rat.one_den, c'] at this
    omega
  have lt' : 1 / (hi - (w : Rat)) < 1 / (lo - (w : Rat)) := by
    refine (Rat.div_lt_iff q2).mpr ?_
    have e : 1 / (lo - (w : Rat)) * (lo - (w : Rat)) = 1 := Rat.div_mul_cancel (by grind)
    have u : 0 < 1 / (lo - (w : Rat)) := (Rat.lt_div_iff q1).mpr (by rw [Rat.zero_mul]; decide)
    have := Rat.mul_lt_mul_of_pos_left (show lo - (w : Rat) < hi - (w : Rat) by grind) u
    rwa [e] at this
  generalize hA : lo - (w : Rat) = A at *
  generalize hC : hi - (w : Rat) = C at *
  rw [a'] at i1
  rw [c'] at j1
  have kp : 0 < k := by
    refine Nat.pos_of_ne_zero fun e => ?_
    subst e
    have : 1 * 1 ≤ C.num.natAbs * hi.den := Nat.mul_le_mul (by omega) (by have := hi.den_nz; omega)
    omega
  refine ⟨kp, ?_⟩
  obtain ⟨m, rfl⟩ : ∃ m, k = m + 1 := ⟨k - 1, by omega⟩
  rw [Nat.add_sub_cancel]
  by_cases big : (((1 / C).floor + 1 : Int) : Rat) < 1 / A
  · exact .inl big
  refine .inr ?_
  have hf : (1 / C).floor = hi.den / C.num := by rw [Rat.floor_def, j1, j2]
  have fl' := (floorLo (1 / C)).1
  generalize (1 / C).floor = x at *
  have big' := (Rat.le_iff _ _).mp (Rat.not_lt.mp big)
  rw [Rat.num_intCast, Rat.den_intCast, i1, i2] at big'
  have lt2 : (x : Rat) < 1 / A := by grind
  have lt2 := (Rat.lt_iff _ _).mp lt2
  rw [Rat.num_intCast, Rat.den_intCast, i1, i2] at lt2
  have md := Int.emod_add_mul_ediv (hi.den : Int) C.num
  rw [← hf] at md
  have m1 := Int.emod_nonneg (hi.den : Int) (b := C.num) (by omega)
  have m2 := Int.emod_lt_of_pos (hi.den : Int) cp
  have x1 : 1 ≤ x := by
    rw [hf]
    exact Int.le_ediv_of_mul_le cp (by omega)
  have xc : 1 * C.num ≤ x * C.num := Int.mul_le_mul_of_nonneg_right x1 (by omega)
  have xa : 1 * A.num ≤ x * A.num := Int.mul_le_mul_of_nonneg_right x1 (by omega)
  have xx : C.num * x = x * C.num := Int.mul_comm ..
  unfold pot
  rw [j1, i1, i2, j2]
  have d1 : ((1 / C).den : Nat) = C.num.natAbs := by omega
  have d2 : ((1 / A).den : Nat) = A.num.natAbs := by omega
  rw [d1, d2]
  refine ⟨?_, ?_⟩
  · have e : 2 * ((hi.den : Int) - x * C.num).natAbs ≤ hi.den := by omega
    have := Nat.mul_le_mul_right C.num.natAbs e
    rw [Nat.mul_assoc, Nat.mul_comm hi.den] at this
    rw [Nat.pow_succ] at p2
    omega
  · have e : 2 * ((lo.den : Int) - x * A.num).natAbs ≤ lo.den := by
      have : (x + 1) * A.num = x * A.num + A.num := by rw [Int.add_mul, Int.one_mul]
      omega
    have := Nat.mul_le_mul_right A.num.natAbs e
    rw [Nat.mul_assoc, Nat.mul_comm lo.den] at this
    rw [Nat.pow_succ] at p1
    omega
theorem lt_mk {r : Rat} {p : Int} {q : Nat} (hq : q ≠ 0) (h : r.num * q < p * r.den) : r < mkRat p q := by
  have q0 : (0 : Rat) < (q : Rat) := Rat.natCast_pos.mpr (Nat.pos_of_ne_zero hq)
  rw [Rat.mkRat_eq_div, Rat.lt_div_iff q0]
  have d0 : (0 : Rat) < ((r.den : Int) : Rat) := Rat.intCast_pos.mpr (den_pos r)
  refine (Rat.mul_lt_mul_right d0).mp ?_
  have := Rat.intCast_lt_intCast.mpr h
  rw [Rat.intCast_mul, Rat.intCast_mul, num_eq r, Rat.intCast_natCast q] at this
  grind
theorem mk_lt {r : Rat} {p : Int} {q : Nat} (hq : q ≠ 0) (h : p * r.den < r.num * q) : mkRat p q < r := by
  have q0 : (0 : Rat) < (q : Rat) := Rat.natCast_pos.mpr (Nat.pos_of_ne_zero hq)
  rw [Rat.mkRat_eq_div, Rat.div_lt_iff q0]
  have d0 : (0 : Rat) < ((r.den : Int) : Rat) := Rat.intCast_pos.mpr (den_pos r)
  refine (Rat.mul_lt_mul_right d0).mp ?_
  have := Rat.intCast_lt_intCast.mpr h
  rw [Rat.intCast_mul, Rat.intCast_mul, num_eq r, Rat.intCast_natCast q] at this
  grind
/-- the fraction between -/
theorem med {lo hi : Rat} (h : lo < hi) : ∃ t : Rat, lo < t ∧ t < hi ∧ t.den ≤ lo.den + hi.den ∧ t.num.natAbs ≤ lo.num.natAbs + hi.num.natAbs := by
  have nz : lo.den + hi.den ≠ 0 := by have := lo.den_nz; omega
  have h' := (Rat.lt_iff _ _).mp h
  refine ⟨mkRat (lo.num + hi.num) (lo.den + hi.den), ?_, ?_, ?_, ?_⟩
  · refine lt_mk nz ?_
    rw [Int.natCast_add, Int.mul_add, Int.add_mul]
    omega
  · refine mk_lt nz ?_
    rw [Int.natCast_add, Int.mul_add, Int.add_mul]
    omega
  · rw [Rat.den_mkRat, if_neg nz]
    exact Nat.div_le_self _ _
  · rw [Rat.num_mkRat, if_neg nz]
    refine Nat.le_trans ?_ (Int.natAbs_add_le _ _)
    rw [Int.natAbs_ediv_of_dvd]
    · exact Nat.div_le_self _ _
    · exact Int.ofNat_dvd_left.mpr (Nat.gcd_dvd_right _ _)
theorem simp_size {lo hi s : Rat} (h : Simp lo hi s) : s.den ≤ lo.den + hi.den ∧ s.num.natAbs ≤ lo.num.natAbs + hi.num.natAbs := by
  have hl : lo < hi := by
    obtain ⟨a, b, _⟩ := h
    grind
  obtain ⟨t, t1, t2, t3, t4⟩ := med hl
  have := simp_min h t1 t2
  omega
end Dn

set_option Elab.async false
set_option linter.all false
set_option maxRecDepth 100000
set_option maxHeartbeats 4000000
set_option exponentiation.threshold 100000
namespace Dn
open PySem PySem.Spec PyProof.Rows L2
section
variable {Q : Rv → Prop} {f : Fx Q}
theorem c_simplest_between {k : Nat} {a b : Rat} (h : (0 < k ∧ RSz 100 a ∧ RSz 100 b ∧ a < b ∧ deep (k - 1) a b)) (q : ∀ s, Simp a b s → Q (.sh (frD s))) : (sp_simplest_between k).Run [frD a, frD b] Q f :=
  Spec.go (sp_simplest_between k) (a, b) rfl h fun r hr => by obtain ⟨s, rfl, h⟩ := hr; exact q s h
theorem c__law_simplest {a b s : Rat} (h : RSz 100 a ∧ RSz 100 b ∧ a < b ∧ Simp a b s ∧ s.den < 300000) (q : Q (.sh (frD s))) : sp__law_simplest.Run [frD a, frD b] Q f :=
  Spec.go sp__law_simplest (a, b, s) rfl h fun r hr => by cases hr; exact q
end
def d_simplest_between (k : Nat) : DS :=
  (sSeq (sSet 2 (eCall sp_floor_of (aCons (eVar 0) aNil)))
  (sSeq (sIf (tB (eOp ltR (eCall sp_compare (aCons (eTup (aCons (eOp addR (eVar 2) (eC (.int 1))) (aCons (eC (.int 1)) aNil))) (aCons (eVar 1) aNil))) (eC (.int 0)))) (sSeq (sIf (tB (eChain ltR ltR (eOp ixR (eVar 0) (eC (.int 0))) (eC (.int 0)) (eOp ixR (eVar 1) (eC (.int 0))))) (sRet (eTup (aCons (eC (.int 0)) (aCons (eC (.int 1)) aNil)))) sNext)
  (sSeq (sIf (tB (eOp leR (eOp ixR (eVar 1) (eC (.int 0))) (eC (.int 0)))) (sRet (eTup (aCons (eOp subR (eCall sp_ceiling_of (aCons (eVar 1) aNil)) (eC (.int 1))) (aCons (eC (.int 1)) aNil)))) sNext)
  (sRet (eTup (aCons (eOp addR (eVar 2) (eC (.int 1))) (aCons (eC (.int 1)) aNil)))))) sNext)
  (sSeq (sSet 3 (eCall sp_minus (aCons (eVar 0) (aCons (eTup (aCons (eVar 2) (aCons (eC (.int 1)) aNil))) aNil))))
  (sSeq (sSet 4 (eCall sp_minus (aCons (eVar 1) (aCons (eTup (aCons (eVar 2) (aCons (eC (.int 1)) aNil))) aNil))))
  (sSeq (sIf (tB (eOp eqR (eOp ixR (eVar 3) (eC (.int 0))) (eC (.int 0)))) (sRet (eCall sp_plus (aCons (eTup (aCons (eVar 2) (aCons (eC (.int 1)) aNil))) (aCons (eTup (aCons (eC (.int 1)) (aCons (eOp addR (eCall sp_floor_of (aCons (eCall sp_over (aCons (eTup (aCons (eC (.int 1)) (aCons (eC (.int 1)) aNil))) (aCons (eVar 4) aNil))) aNil)) (eC (.int 1))) aNil))) aNil)))) sNext)
  (sSeq (sSet 5 (eCall (sp_simplest_between k) (aCons (eCall sp_over (aCons (eTup (aCons (eC (.int 1)) (aCons (eC (.int 1)) aNil))) (aCons (eVar 4) aNil))) (aCons (eCall sp_over (aCons (eTup (aCons (eC (.int 1)) (aCons (eC (.int 1)) aNil))) (aCons (eVar 3) aNil))) aNil))))
  (sRet (eCall sp_plus (aCons (eTup (aCons (eVar 2) (aCons (eC (.int 1)) aNil))) (aCons (eCall sp_over (aCons (eTup (aCons (eC (.int 1)) (aCons (eC (.int 1)) aNil))) (aCons (eVar 5) aNil))) aNil))))))))))

def d__law_simplest : DS :=
  (sSeq (sFor (iRange2 (aCons (eC (.int 1)) (aCons (eC (.int 300000)) aNil))) (gN 2) (sSeq (sSet 3 (eOp addR (eOp1 intR (eOp fdivR (eOp mulR (eOp ixR (eVar 0) (eC (.int 0))) (eVar 2)) (eOp ixR (eVar 0) (eC (.int 1))))) (eC (.int 1))))
  (sIf (tB (eOp ltR (eOp mulR (eVar 3) (eOp ixR (eVar 1) (eC (.int 1)))) (eOp mulR (eOp ixR (eVar 1) (eC (.int 0))) (eVar 2)))) (sSeq (sSet 4 (eOp subR (eOp1 negR (eOp1 intR (eOp fdivR (eOp mulR (eOp1 negR (eOp ixR (eVar 1) (eC (.int 0)))) (eVar 2)) (eOp ixR (eVar 1) (eC (.int 1)))))) (eC (.int 1))))
  (sSeq (sIf (tB (eChain leR leR (eVar 3) (eC (.int 0)) (eVar 4))) (sRet (eTup (aCons (eC (.int 0)) (aCons (eC (.int 1)) aNil)))) sNext)
  (sRet (eIf (tB (eOp gtR (eVar 3) (eC (.int 0)))) (eTup (aCons (eVar 3) (aCons (eVar 2) aNil))) (eTup (aCons (eVar 4) (aCons (eVar 2) aNil))))))) sNext)))
  (sRet (eC .non)))

def d_law : DS :=
  (sSeq (sOwn 1 (eCall sp__law_big (aCons (eVar 0) (aCons (eC (.int 0)) (aCons (eC (.int 10)) aNil)))))
  (sSeq (sSet 2 (eIf (tB (eOp eqR (eCallS sp__law_take 1 (aCons (eC (.int 8)) aNil)) (eC (.int 3)))) (eC (.int 500)) (eC (.int 60))))
  (sSeq (sSet 3 (eCall sp__law_ratio (aCons (eOp subR (eCallS sp__law_take 1 (aCons (eOp mulR (eC (.int 8)) (eVar 2)) aNil)) (eOp mulR (eC (.int 4)) (eVar 2))) (aCons (eOp addR (eC (.int 1)) (eCallS sp__law_take 1 (aCons (eVar 2) aNil))) aNil))))
  (sSeq (sSet 4 (eCall sp__law_ratio (aCons (eOp subR (eCallS sp__law_take 1 (aCons (eOp mulR (eC (.int 8)) (eVar 2)) aNil)) (eOp mulR (eC (.int 4)) (eVar 2))) (aCons (eOp addR (eC (.int 1)) (eCallS sp__law_take 1 (aCons (eVar 2) aNil))) aNil))))
  (sSeq (sIf (tB (eOp eqR (eCallS sp__law_take 1 (aCons (eC (.int 2)) aNil)) (eC (.int 0)))) (sSeq (sSet 5 (eOp addR (eC (.int 1)) (eCallS sp__law_take 1 (aCons (eVar 2) aNil))))
  (sSet 4 (eCall sp__law_ratio (aCons (eOp addR (eOp mulR (eOp ixR (eVar 3) (eC (.int 0))) (eVar 5)) (eOp ixR (eVar 3) (eC (.int 1)))) (aCons (eOp mulR (eOp ixR (eVar 3) (eC (.int 1))) (eVar 5)) aNil))))) sNext)
  (sSeq (sIf (tB (eOp eqR (eVar 3) (eVar 4))) (sSet 4 (eTup (aCons (eOp addR (eOp ixR (eVar 4) (eC (.int 0))) (eOp ixR (eVar 4) (eC (.int 1)))) (aCons (eOp ixR (eVar 4) (eC (.int 1))) aNil)))) sNext)
  (sSeq (sAsg (eIf (tB (eOp ltR (eOp mulR (eOp ixR (eVar 3) (eC (.int 0))) (eOp ixR (eVar 4) (eC (.int 1)))) (eOp mulR (eOp ixR (eVar 4) (eC (.int 0))) (eOp ixR (eVar 3) (eC (.int 1)))))) (eTup (aCons (eVar 3) (aCons (eVar 4) aNil))) (eTup (aCons (eVar 4) (aCons (eVar 3) aNil)))) (gTupD 2 (gConsD (gN 6) (gConsD (gN 7) gNilD))))
  (sSeq (sSet 8 (eCall (sp_simplest_between 40) (aCons (eVar 6) (aCons (eVar 7) aNil))))
  (sRet (eAnd (eCall sp__law_is_ratio (aCons (eVar 8) aNil)) (eOp eqR (eVar 8) (eCall sp__law_simplest (aCons (eVar 6) (aCons (eVar 7) aNil))))))))))))))

@[simp] theorem cmp_neg {x y : Rat} : (cmpR x y < 0) = (x < y) := by
  unfold cmpR
  split
  · simp [*]
  · split
    · simp [*]
    · simp [*]
theorem fl_size {r : Rat} {n : Nat} (h : RSz n r) : Sz n r.floor := by
  have h := h.1
  unfold Sz
  rw [Rat.floor_def]
  refine Nat.lt_of_le_of_lt ?_ h
  have := den_pos r
  exact Int.natAbs_ediv_le_natAbs _ _
theorem ceil_size {r : Rat} {n : Nat} (h : RSz n r) : Sz n r.ceil := by
  rw [Rat.ceil_eq_neg_floor_neg]
  refine Sz.neg (fl_size (r := -r) ⟨?_, h.2⟩)
  rw [Rat.neg_num, Int.natAbs_neg]
  exact h.1
theorem num_lt0 {r : Rat} : (r.num < 0) = (r < 0) := by
  have := Rat.lt_iff r 0
  simp only [Rat.zero_num, Rat.zero_den] at this
  apply propext
  rw [this]
  omega
theorem num_gt0 {r : Rat} : (0 < r.num) = (0 < r) := by
  have := Rat.lt_iff 0 r
  simp only [Rat.zero_num, Rat.zero_den] at this
  apply propext
  rw [this]
  omega
theorem num_le0 {r : Rat} : (r.num ≤ 0) = (r ≤ 0) := by
  have := Rat.le_iff r 0
  simp only [Rat.zero_num, Rat.zero_den] at this
  apply propext
  rw [this]
  omega
theorem frD_inv {n : Int} (h : 0 < n) : D.tup [.int 1, .int n] = frD (1 / (n : Rat)) := by
  obtain ⟨a, b⟩ := inv_pos' (n : Rat) (Rat.intCast_pos.mpr h)
  unfold frD
  rw [a, b]
  rfl
theorem RSz.sub' {r : Rat} {w : Int} {n m : Nat} (h : RSz n r) (h' : Sz m w) : RSz (n + m + 1) (r - (w : Rat)) := by
  obtain ⟨a, b⟩ := sub_int w r
  refine ⟨?_, ?_⟩
  · rw [a]
    have := Sz.sub (n := n + m) (Sz.up h.num (Nat.le_add_right n m)) (by rw [Nat.add_comm]; exact Sz.mul h' h.den)
    exact this
  · rw [b]
    exact Nat.lt_of_lt_of_le h.2 (Nat.pow_le_pow_right (by decide) (by omega))
theorem RSz.inv {r : Rat} {n : Nat} (h : RSz n r) (h0 : 0 < r) : RSz n (1 / r) := by
  obtain ⟨a, b⟩ := inv_pos' r h0
  refine ⟨by rw [a]; exact h.2, ?_⟩
  have : (1 / r).den = r.num.natAbs := by omega
  rw [this]; exact h.1
theorem k_simplest_between (k : Nat) : (sp_simplest_between (k + 1)).Ok 6 (d_simplest_between k) := by
  rintro ⟨lo, hi⟩ ⟨_, h1, h2, h3, h4⟩
  have h1 : RSz 100 lo := h1
  have h2 : RSz 100 hi := h2
  have h3 : lo < hi := h3
  have h4 : deep k lo hi := h4
  have a1 : RSz 9000 lo := h1.up (by decide)
  have a2 : RSz 9000 hi := h2.up (by decide)
  have b1 : RSz 400000 lo := h1.up (by decide)
  have b2 : RSz 400000 hi := h2.up (by decide)
  have c1 : RSz 4000 lo := h1.up (by decide)
  have c2 : RSz 4000 hi := h2.up (by decide)
  have fz := fl_size h1
  have w0 : RSz 4000 (lo.floor : Rat) := (RSz.int fz (by decide)).up (by decide)
  have one : ∀ n, 0 < n → RSz n 1 := fun n hn => by
    have : 1 < 2 ^ n := Nat.one_lt_two_pow (by omega)
    exact ⟨this, this⟩
  have o4 := one 4000 (by decide)
  have w1 : RSz 400000 ((lo.floor : Rat) + 1) := ((RSz.int fz (by decide)).add (one 1 (by decide))).up (by decide)
  have f1 : RSz 4000 (lo - (lo.floor : Rat)) := (h1.sub' fz).up (by decide)
  have f2 : RSz 4000 (hi - (lo.floor : Rat)) := (h2.sub' fz).up (by decide)
  have fl := floorLo lo
  have cast1 : ((lo.floor + 1 : Int) : Rat) = (lo.floor : Rat) + 1 := by rw [Rat.intCast_add, toRat1]
  simp [entry, sp_simplest_between]
  by_cases hA : (lo.floor : Rat) + 1 < hi
  · simp -dsimp [d_simplest_between, frD_int, a1, a2, b1, b2, c1, c2, w0, w1, hA, num_lt0, num_gt0, num_le0]
    have hA' := hA
    rw [← cast1] at hA'
    have up : 0 ≤ lo → Simp lo hi ((lo.floor : Rat) + 1) := fun h => by rw [← cast1]; exact simpUp hA' h
    have dn : hi ≤ 0 → Simp lo hi ((hi.ceil : Rat) - 1) := fun h => by
      have := simpDown hA' h h3
      rwa [Rat.intCast_sub, toRat1] at this
    split
    · split
      · exact simp0 (by assumption) (by assumption)
      · split
        · exact dn (by assumption)
        · grind
    · split
      · exact dn (by assumption)
      · exact up (Rat.not_lt.mp (by assumption))
  · have hh : hi ≤ (lo.floor : Rat) + 1 := Rat.not_lt.mp hA
    have q2 : 0 < hi - (lo.floor : Rat) := by grind
    have n2 : ¬ (hi - (lo.floor : Rat) = 0) := by grind
    have i2 : RSz 9000 (1 / (hi - (lo.floor : Rat))) := (f2.inv q2).up (by decide)
    have p2 : pot lo.floor lo < 2 ^ k ∧ pot lo.floor hi < 2 ^ k := by
      rcases h4 with h | h
      · rw [cast1] at h; exact absurd h hA
      · exact h
    obtain ⟨c, c'⟩ := sub_int lo.floor hi
    have cp := num_pos' _ q2
    have cl : (hi - (lo.floor : Rat)).num ≤ hi.den := by
      have := (Rat.le_iff (hi - (lo.floor : Rat)) 1).mp (by grind)
      simp only [Rat.one_num, Rat.one_den, c'] at this
      omega
    have z2 : RSz 100 (hi - (lo.floor : Rat)) := ⟨Nat.lt_of_le_of_lt (by omega) h2.2, by rw [c']; exact h2.2⟩
    by_cases hz : lo - (lo.floor : Rat) = 0
    · obtain ⟨n1, hs⟩ := simpOne lo.floor (by grind) h3 hh _ rfl
      have ft := frD_inv (n := (1 / (hi - (lo.floor : Rat))).floor + 1) (by omega)
      have fs : RSz 4000 (1 / (((1 / (hi - (lo.floor : Rat))).floor + 1 : Int) : Rat)) :=
        (RSz.inv (RSz.int (Sz.add (fl_size (z2.inv q2)) (show Sz 100 1 from Nat.one_lt_two_pow (by decide))) (by decide)) (Rat.intCast_pos.mpr (by omega))).up (by decide)
      rw [Rat.intCast_add, toRat1] at ft fs hs
      simp -dsimp [d_simplest_between, frD_int, a1, a2, b1, b2, c1, c2, w0, w1, hA, f1, f2, o4, n2, i2, hz, ft, fs, hs]
    · have lw : (lo.floor : Rat) < lo := by grind
      have q1 : 0 < lo - (lo.floor : Rat) := by grind
      obtain ⟨k0, dp⟩ := potStep lw h3 hh p2.1 p2.2
      simp -dsimp [d_simplest_between, frD_int, a1, a2, b1, b2, c1, c2, w0, w1, hA, f1, f2, o4, n2, i2, hz]
      obtain ⟨a, a'⟩ := sub_int lo.floor lo
      have al : (lo - (lo.floor : Rat)).num ≤ lo.den := by
        have := (Rat.lt_iff (lo - (lo.floor : Rat)) 1).mp (by grind)
        simp only [Rat.one_num, Rat.one_den, a'] at this
        omega
      have ap := num_pos' _ q1
      have z1 : RSz 100 (lo - (lo.floor : Rat)) := ⟨Nat.lt_of_le_of_lt (by omega) h1.2, by rw [a']; exact h1.2⟩
      have lt' : 1 / (hi - (lo.floor : Rat)) < 1 / (lo - (lo.floor : Rat)) := by
        refine (Rat.div_lt_iff q2).mpr ?_
        have e : 1 / (lo - (lo.floor : Rat)) * (lo - (lo.floor : Rat)) = 1 := Rat.div_mul_cancel (by grind)
        have u : 0 < 1 / (lo - (lo.floor : Rat)) := (Rat.lt_div_iff q1).mpr (by rw [Rat.zero_mul]; decide)
        have := Rat.mul_lt_mul_of_pos_left (show lo - (lo.floor : Rat) < hi - (lo.floor : Rat) by grind) u
        rwa [e] at this
      refine c_simplest_between ⟨k0, z2.inv q2, z1.inv q1, lt', dp⟩ fun s hs => ?_
      have sz := simp_size hs
      have y1 := z1.inv q1
      have y2 := z2.inv q2
      have ss : RSz 101 s := ⟨by have := y1.1; have := y2.1; rw [Nat.pow_succ]; omega, by have := y1.2; have := y2.2; rw [Nat.pow_succ]; omega⟩
      obtain ⟨sp, st⟩ := simpStep lo.floor lw h3 hh hs
      have s4 : RSz 4000 s := ss.up (by decide)
      have s5 : RSz 4000 (1 / s) := s4.inv sp
      have s6 : ¬ s = 0 := by grind
      simp -dsimp [frD_int, w0, o4, s4, s5, s6, st]
theorem mk_le {p : Int} {q : Nat} (hq : q ≠ 0) : (mkRat p q).den ≤ q ∧ (mkRat p q).num.natAbs ≤ p.natAbs := by
  refine ⟨?_, ?_⟩
  · rw [Rat.den_mkRat, if_neg hq]
    exact Nat.div_le_self _ _
  · rw [Rat.num_mkRat, if_neg hq, Int.natAbs_ediv_of_dvd]
    · exact Nat.div_le_self _ _
    · exact Int.ofNat_dvd_left.mpr (Nat.gcd_dvd_right _ _)
theorem lt_of_mul {a b n : Int} (hn : 0 < n) (h : a * n < b * n) : a < b := Int.lt_of_mul_lt_mul_right h (Int.le_of_lt hn)
theorem simplest_step {lo hi s : Rat} (h : Simp lo hi s) {k : Nat} (hk : 0 < k) (hks : k ≤ s.den) {F L : Int} (hF1 : (F - 1) * lo.den ≤ lo.num * k) (hF2 : lo.num * k < F * lo.den) (hL1 : L * hi.den < hi.num * k) (hL2 : hi.num * k ≤ (L + 1) * hi.den) :
    (F * hi.den < hi.num * k → k = s.den ∧ (F ≤ 0 → 0 ≤ L → s = 0) ∧ (0 < F → s.num = F) ∧ (F ≤ 0 → ¬ 0 ≤ L → s.num = L)) ∧ (¬ F * hi.den < hi.num * k → k ≠ s.den) := by
  obtain ⟨s1, s2, _⟩ := id h
  have s1 := (Rat.lt_iff _ _).mp s1
  have s2 := (Rat.lt_iff _ _).mp s2
  have n1 := den_pos lo
  have n2 := den_pos hi
  have nz : k ≠ 0 := by omega
  refine ⟨fun hc => ?_, fun hc e => ?_⟩
  · have FL : F ≤ L := by
      have := lt_of_mul n2 (Int.lt_of_lt_of_le hc hL2)
      omega
    have xL : lo.num * k < L * lo.den := Int.lt_of_lt_of_le hF2 (Int.mul_le_mul_of_nonneg_right FL (by omega))
    have A := simp_min h (lt_mk nz hF2) (mk_lt nz hc)
    have B := simp_min h (lt_mk nz xL) (mk_lt nz hL1)
    have A' := mk_le (p := F) nz
    have B' := mk_le (p := L) nz
    have ek : k = s.den := by omega
    subst ek
    have F1 := lt_of_mul n1 (Int.lt_of_le_of_lt hF1 s1)
    have L1 := lt_of_mul n2 (Int.lt_of_lt_of_le s2 hL2)
    refine ⟨rfl, fun f0 l0 => ?_, fun f0 => by omega, fun f0 l0 => by omega⟩
    have C1 : lo < 0 := by
      refine (Rat.lt_iff _ _).mpr ?_
      simp only [Rat.zero_num, Rat.zero_den]
      have : F * lo.den ≤ 0 := Int.mul_nonpos_of_nonpos_of_nonneg f0 (by omega)
      by_cases z : lo.num < 0
      · omega
      · have : 0 ≤ lo.num * s.den := Int.mul_nonneg (by omega) (by omega)
        omega
    have C2 : 0 < hi := by
      refine (Rat.lt_iff _ _).mpr ?_
      simp only [Rat.zero_num, Rat.zero_den]
      have : 0 ≤ L * hi.den := Int.mul_nonneg l0 (by omega)
      by_cases z : 0 < hi.num
      · omega
      · have : hi.num * s.den ≤ 0 := Int.mul_nonpos_of_nonpos_of_nonneg (by omega) (by omega)
        omega
    have := (simp_min h C1 C2).2
    simp only [Rat.zero_num, Int.natAbs_zero] at this
    exact Rat.num_eq_zero.mp (by omega)
  · subst e
    have F1 := lt_of_mul n1 (Int.lt_of_le_of_lt hF1 s1)
    have : F * hi.den ≤ s.num * hi.den := Int.mul_le_mul_of_nonneg_right (by omega) (by omega)
    omega
theorem k__law_simplest : sp__law_simplest.Ok 5 d__law_simplest := by
  rintro ⟨lo, hi, s⟩ ⟨h1, h2, h3, h4, h5⟩
  have h1 : RSz 100 lo := h1
  have h2 : RSz 100 hi := h2
  have h3 : lo < hi := h3
  have h4 : Simp lo hi s := h4
  have h5 : s.den < 300000 := h5
  have d1 : ∀ x : Int, DivOk x lo.den := fun x => (h1.den).divOk (by decide) (den_ne lo)
  have d2 : ∀ x : Int, DivOk x hi.den := fun x => (h2.den).divOk (by decide) (den_ne hi)
  simp [entry, sp__law_simplest]
  simp -dsimp [d__law_simplest]
  refine for_range2 (m := 1) (n := 300000) (by decide) (by decide) (fun QA => by simp) (fun k e => (∃ a b c : Sl, e = [.sh (frD lo), .sh (frD hi), a, b, c]) ∧ k ≤ s.den) ⟨⟨_, _, _, rfl⟩, by have := s.den_nz; omega⟩ ?_ ?_
  · rintro k k1 k2 e ⟨⟨a, b, c, rfl⟩, hks⟩
    have m1 : ∀ x, IntMulOk x (k : Int) := fun x =>
      mulOkR (by
               have : (2 : Nat) ^ 64 = 18446744073709551616 := by decide
               omega)
    obtain ⟨F, hF⟩ : ∃ F, F = (lo.num * k).fdiv lo.den + 1 := ⟨_, rfl⟩
    obtain ⟨L, hL⟩ : ∃ L, L = -((-hi.num * (k : Int)).fdiv hi.den) - 1 := ⟨_, rfl⟩
    have n1 := den_pos lo
    have n2 := den_pos hi
    have hF1 : (F - 1) * lo.den ≤ lo.num * k := by
      rw [hF, Int.fdiv_eq_ediv_of_nonneg _ (by omega), Int.add_sub_cancel]
      exact Int.ediv_mul_le _ (by omega)
    have hF2 : lo.num * k < F * lo.den := by
      rw [hF, Int.fdiv_eq_ediv_of_nonneg _ (by omega)]
      exact Int.lt_ediv_add_one_mul_self _ n1
    have hL1 : L * hi.den < hi.num * k := by
      rw [hL, Int.fdiv_eq_ediv_of_nonneg _ (by omega)]
      have := Int.lt_ediv_add_one_mul_self (-hi.num * (k : Int)) n2
      rw [Int.neg_mul] at this ⊢
      rw [Int.add_mul] at this
      rw [Int.sub_mul, Int.neg_mul]
      omega
    have hL2 : hi.num * k ≤ (L + 1) * hi.den := by
      rw [hL, Int.fdiv_eq_ediv_of_nonneg _ (by omega), Int.sub_add_cancel]
      have := Int.ediv_mul_le (-hi.num * (k : Int)) (b := (hi.den : Int)) (by omega)
      rw [Int.neg_mul] at this ⊢
      rw [Int.neg_mul]
      omega
    have key := simplest_step h4 (by omega) hks hF1 hF2 hL1 hL2
    have m2 : IntMulOk F hi.den := by
      have kz : Sz 64 (k : Int) := by
        have : (2 : Nat) ^ 64 = 18446744073709551616 := by decide
        unfold Sz
        omega
      have fz : Sz 164 ((lo.num * k).fdiv lo.den) := by
        rw [Int.fdiv_eq_ediv_of_nonneg _ (by omega)]
        exact Sz.le (h1.num.mul kz) (Int.natAbs_ediv_le_natAbs _ _)
      rw [hF]
      exact Sz.mulOk (Sz.add fz (show Sz 164 1 from Nat.one_lt_two_pow (by decide))) h2.den (by decide)
    have hL' : -((-(hi.num * (k : Int))).fdiv hi.den) - 1 = L := by rw [hL, Int.neg_mul]
    by_cases hc : F * hi.den < hi.num * k
    · obtain ⟨ek, e1, e2, e3⟩ := key.1 hc
      simp -dsimp [m1, d1, d2, ← hF, m2, hc, ← hL, hL']
      have fin1 : s.num = F → D.tup [.int F, .int k] = frD s := fun h => by unfold frD; rw [h, ek]
      have fin2 : s.num = L → D.tup [.int L, .int k] = frD s := fun h => by unfold frD; rw [h, ek]
      split
      · split
        · rw [e1 (by assumption) (by assumption)]; rfl
        · rw [if_neg (by omega)]
          exact fin2 (e3 (by assumption) (by assumption))
      · rw [if_pos (by omega)]
        exact fin1 (e2 (by omega))
    · have := key.2 hc
      simp -dsimp [m1, d1, ← hF, m2, hc]
      omega
  · rintro k e k1 k2 ⟨⟨a, b, c, rfl⟩, hks⟩
    omega
theorem frz_ints {ns : List Int} : D.frz (ns.map D.int) = intsD ns := rfl
theorem divInt_le {p : Int} {q : Int} (hq : 0 < q) : ((Rat.divInt p q).den : Int) ≤ q ∧ (Rat.divInt p q).num.natAbs ≤ p.natAbs := by
  obtain ⟨n, rfl⟩ := Int.eq_ofNat_of_zero_le (Int.le_of_lt hq)
  rw [Rat.divInt_ofNat]
  have := mk_le (p := p) (q := n) (by omega)
  omega
theorem szLit {n : Nat} {i : Int} (h : i.natAbs < 2 ^ 64) (hn : 64 ≤ n) : Sz n i := Sz.up (n := 64) h hn
/-- a drawn fraction -/
def Fr (b c : Nat) (r : Rat) : Prop := r.num.natAbs ≤ b ∧ r.den ≤ c
theorem Fr.rsz {b c : Nat} {r : Rat} (h : Fr b c r) (hb : b < 2 ^ 64) (hc : c < 2 ^ 64) : RSz 64 r := ⟨Nat.lt_of_le_of_lt h.1 hb, Nat.lt_of_le_of_lt h.2 hc⟩
abbrev lenv (ns : List Int) (c : Int) (rest : En) : En := .sh (intsD ns) :: .ow [.int c] :: rest
theorem k_law : sp_law.Ok 9 d_law := by
  intro (ns : List Int) (h : ns.length ≤ 63)
  simp [entry, sp_law, lawSpec, frz_ints]
  unfold d_law
  have p64 : (2 : Nat) ^ 64 = 18446744073709551616 := by decide
  refine seq_cut (fun e => ∃ c, e = lenv ns c [.no, .no, .no, .no, .no, .no, .no]) ?_ ?_
  · simp -dsimp
    refine c_law_big ⟨h, by decide, by decide, by decide, by decide⟩ fun c => ?_
    simp -dsimp
  rintro e ⟨c, rfl⟩
  refine seq_cut (fun e => ∃ c m, e = lenv ns c [.sh (.int m), .no, .no, .no, .no, .no, .no] ∧ 60 ≤ m ∧ m ≤ 500) ?_ ?_
  · have z8 : Sz 9000 8 := szLit (by decide) (by decide)
    simp -dsimp [z8]
    split
    · exact ⟨_, _, ⟨rfl, rfl⟩, by decide, by decide⟩
    · exact ⟨_, _, ⟨rfl, rfl⟩, by decide, by decide⟩
  rintro e ⟨c, m, rfl, hm1, hm2⟩
  have mz : Sz 9000 m := szLit (by omega) (by decide)
  have mz8 : Sz 9000 (8 * m) := szLit (by omega) (by decide)
  have i8 : IntMulOk 8 m := mulOkL (by decide)
  have i4 : IntMulOk 4 m := mulOkL (by decide)
  have mp : 0 < m := by omega
  have draw : ∀ x y : Int, 1 + y % m ≠ 0 ∧ Sz 9000 (x % (8 * m) - 4 * m) ∧ Sz 9000 (1 + y % m) ∧ Fr 2000 500 (Rat.divInt (x % (8 * m) - 4 * m) (1 + y % m)) := fun x y => by
    have a1 := Int.emod_nonneg x (b := 8 * m) (by omega)
    have a2 := Int.emod_lt_of_pos x (b := 8 * m) (by omega)
    have b1 := Int.emod_nonneg y (b := m) (by omega)
    have b2 := Int.emod_lt_of_pos y (b := m) (by omega)
    have d := divInt_le (p := x % (8 * m) - 4 * m) (q := 1 + y % m) (by omega)
    exact ⟨by omega, szLit (by omega) (by decide), szLit (by omega) (by decide), by unfold Fr; omega⟩
  refine seq_cut (fun e => ∃ c r, e = lenv ns c [.sh (.int m), .sh (frD r), .no, .no, .no, .no, .no] ∧ Fr 2000 500 r) ?_ ?_
  · simp -dsimp [i8, i4, mz, mz8, mp]
    obtain ⟨q1, q2, q3, q4⟩ := draw c (c / (8 * m))
    exact ⟨by omega, ⟨q1, q2, q3⟩, _, _, ⟨rfl, rfl⟩, q4⟩
  rintro e ⟨c, r, rfl, hr⟩
  refine seq_cut (fun e => ∃ c s, e = lenv ns c [.sh (.int m), .sh (frD r), .sh (frD s), .no, .no, .no, .no] ∧ Fr 2000 500 s) ?_ ?_
  · simp -dsimp [i8, i4, mz, mz8, mp]
    obtain ⟨q1, q2, q3, q4⟩ := draw c (c / (8 * m))
    exact ⟨by omega, ⟨q1, q2, q3⟩, _, _, ⟨rfl, rfl⟩, q4⟩
  rintro e ⟨c, s, rfl, hs⟩
  refine seq_cut (fun e => ∃ c s x, e = lenv ns c [.sh (.int m), .sh (frD r), .sh (frD s), x, .no, .no, .no] ∧ Fr 1000500 250000 s) ?_ ?_
  · have z2 : Sz 9000 2 := szLit (by decide) (by decide)
    have near : ∀ y : Int, (∀ x, IntMulOk x (1 + y % m)) ∧ (r.den : Int) * (1 + y % m) ≠ 0 ∧ Sz 9000 (r.num * (1 + y % m) + r.den) ∧ Sz 9000 ((r.den : Int) * (1 + y % m)) ∧ Fr 1000500 250000 (Rat.divInt (r.num * (1 + y % m) + r.den) (r.den * (1 + y % m))) := fun y => by
      have b1 := Int.emod_nonneg y (b := m) (by omega)
      have b2 := Int.emod_lt_of_pos y (b := m) (by omega)
      obtain ⟨n, hn⟩ := Int.eq_ofNat_of_zero_le (show 0 ≤ 1 + y % m by omega)
      rw [hn]
      have n1 : 1 ≤ n ∧ n ≤ 500 := by omega
      have e1 : (r.num * (n : Int)).natAbs ≤ 2000 * 500 := by rw [Int.natAbs_mul]; exact Nat.mul_le_mul hr.1 n1.2
      have e2 : r.den * n ≤ 500 * 500 := Nat.mul_le_mul hr.2 n1.2
      have e3 : 1 ≤ r.den * n := Nat.mul_pos (Nat.pos_of_ne_zero r.den_nz) n1.1
      have e4 := hr.2
      obtain ⟨D, hD⟩ : ∃ D, D = r.den * n := ⟨_, rfl⟩
      have e5 : (r.den : Int) * (n : Int) = (D : Int) := by rw [hD]; rfl
      rw [e5]
      rw [← hD] at e2 e3
      have d := divInt_le (p := r.num * n + r.den) (q := D) (by omega)
      refine ⟨fun x => mulOkR (by omega), by omega, szLit (by omega) (by decide), szLit (by omega) (by decide), ?_⟩
      unfold Fr
      omega
    simp -dsimp [mz, mp, z2]
    split
    · obtain ⟨q1, q2, q3, q4, q5⟩ := near (c / 2)
      simp -dsimp only [Int.mul_eq_zero, not_or, ne_eq] at q2
      simp -dsimp [q1, q2, q3, q4, mz, mp]
      exact ⟨r.den_nz, _, _, ⟨rfl, rfl⟩, q5⟩
    · have hs' : Fr 1000500 250000 s := by unfold Fr at *; omega
      first | exact hs' | exact ⟨_, rfl, hs'⟩ | exact ⟨_, _, ⟨rfl, rfl⟩, hs'⟩ | exact ⟨_, _, _, ⟨rfl, rfl, rfl⟩, hs'⟩
  rintro e ⟨c, s, x, rfl, hs⟩
  refine seq_cut (fun e => ∃ s x, e = lenv ns c [.sh (.int m), .sh (frD r), .sh (frD s), x, .no, .no, .no] ∧ r ≠ s ∧ Fr 1300000 250000 s) ?_ ?_
  · have up : D.tup [.int (s.num + s.den), .int s.den] = frD (((1 : Int) : Rat) + s) := by
      obtain ⟨a, b⟩ := add_int 1 s
      unfold frD
      rw [a, b, Int.one_mul, Int.add_comm]
    by_cases e : r = s
    · simp -dsimp [e, up]
      refine ⟨by grind, ?_⟩
      obtain ⟨a, b⟩ := add_int 1 s
      rw [toRat1] at a b
      unfold Fr at *
      rw [a, b]
      omega
    · simp -dsimp [e]
      unfold Fr at *
      omega
  rintro e ⟨s, x, rfl, hne, hs⟩
  refine seq_cut (fun e => ∃ a1 a2 a3 a4 lo hi, e = lenv ns c [a1, a2, a3, a4, .sh (frD lo), .sh (frD hi), .no] ∧ lo < hi ∧ Fr 1300000 250000 lo ∧ Fr 1300000 250000 hi ∧ lo.den + hi.den ≤ 250500) ?_ ?_
  · have m1 : IntMulOk r.num s.den := mulOkR (by have := hs.2; omega)
    have m2 : IntMulOk s.num r.den := mulOkR (by have := hr.2; omega)
    have hr' : Fr 1300000 250000 r := by unfold Fr at *; omega
    have sum : r.den + s.den ≤ 250500 := by have := hr.2; have := hs.2; omega
    by_cases e : r < s
    · simp -dsimp [m1, m2, (Rat.lt_iff r s).mp e]
      exact ⟨_, _, _, _, _, _, ⟨rfl, rfl, rfl, rfl, rfl, rfl⟩, e, hr', hs, sum⟩
    · have e' : ¬ r.num * (s.den : Int) < s.num * (r.den : Int) := fun h => e ((Rat.lt_iff r s).mpr h)
      simp -dsimp [m1, m2, e']
      exact ⟨_, _, _, _, _, _, ⟨rfl, rfl, rfl, rfl, rfl, rfl⟩, Rat.lt_of_le_of_ne (Rat.not_lt.mp e) (Ne.symm hne), hs, hr', by omega⟩
  rintro e ⟨a1, a2, a3, a4, lo, hi, rfl, hl, h1, h2, h12⟩
  simp -dsimp
  have z1 : RSz 100 lo := (h1.rsz (by omega) (by omega)).up (by decide)
  have z2 : RSz 100 hi := (h2.rsz (by omega) (by omega)).up (by decide)
  have dp : deep 39 lo hi := by
    by_cases hA : ((lo.floor + 1 : Int) : Rat) < hi
    · exact .inl hA
    · refine .inr ?_
      have fl := floorLo lo
      have hh : hi ≤ (lo.floor : Rat) + 1 := by
        rw [Rat.intCast_add, toRat1] at hA
        exact Rat.not_lt.mp hA
      obtain ⟨a, a'⟩ := sub_int lo.floor lo
      obtain ⟨b, b'⟩ := sub_int lo.floor hi
      have A0 := Rat.num_nonneg.mpr (show 0 ≤ lo - (lo.floor : Rat) by grind)
      have B0 := Rat.num_nonneg.mpr (show 0 ≤ hi - (lo.floor : Rat) by grind)
      have A1 := (Rat.le_iff (lo - (lo.floor : Rat)) 1).mp (by grind)
      have B1 := (Rat.le_iff (hi - (lo.floor : Rat)) 1).mp (by grind)
      simp only [Rat.one_num, Rat.one_den, a', b'] at A1 B1
      have n1 := h1.2
      have n2 := h2.2
      have p39 : (250000 : Nat) * 250000 < 2 ^ 39 := by decide
      unfold pot
      rw [← a, ← b]
      have e1 : (lo - (lo.floor : Rat)).num.natAbs * lo.den ≤ 250000 * 250000 := Nat.mul_le_mul (by omega) n1
      have e2 : (hi - (lo.floor : Rat)).num.natAbs * hi.den ≤ 250000 * 250000 := Nat.mul_le_mul (by omega) n2
      exact ⟨Nat.lt_of_le_of_lt e1 p39, Nat.lt_of_le_of_lt e2 p39⟩
  refine c_simplest_between ⟨by decide, z1, z2, hl, dp⟩ fun t ht => ?_
  have sz := simp_size ht
  have t9 : RSz 9000 t := by
    refine RSz.up (n := 101) ⟨?_, ?_⟩ (by decide)
    · have := z1.1; have := z2.1; rw [Nat.pow_succ]; omega
    · have := z1.2; have := z2.2; rw [Nat.pow_succ]; omega
  simp -dsimp [t9]
  refine c__law_simplest ⟨z1, z2, hl, ht, by omega⟩ ?_
  simp -dsimp
end Dn

set_option Elab.async false
set_option linter.all false
set_option maxRecDepth 100000
set_option maxHeartbeats 4000000
namespace Rl
open PySem PySem.Spec PyProof.Rows L2 Dn
def topS (i : Nat) : Stmt := PySem.Challenge.pw_roothold_k02_simplest_fractions.main.body.getD i (.Pass ⟨0, 0, 0, 0⟩)
abbrev s_common_divisor : Stmt := topS 4
abbrev N_common_divisor : List Str := ["one", "two"]
theorem sc_common_divisor : FnScope N_common_divisor ["one", "two"] (defScope s_common_divisor) := ⟨rfl, rfl, rfl, by decide +kernel, rfl, by decide +kernel, by decide +kernel⟩
abbrev s_ratio : Stmt := topS 5
abbrev N_ratio : List Str := ["numerator", "denominator", "divisor"]
theorem sc_ratio : FnScope N_ratio ["numerator", "denominator"] (defScope s_ratio) := ⟨rfl, rfl, rfl, by decide +kernel, rfl, by decide +kernel, by decide +kernel⟩
abbrev s_plus : Stmt := topS 6
abbrev N_plus : List Str := ["one", "two"]
theorem sc_plus : FnScope N_plus ["one", "two"] (defScope s_plus) := ⟨rfl, rfl, rfl, by decide +kernel, rfl, by decide +kernel, by decide +kernel⟩
abbrev s_minus : Stmt := topS 7
abbrev N_minus : List Str := ["one", "two"]
theorem sc_minus : FnScope N_minus ["one", "two"] (defScope s_minus) := ⟨rfl, rfl, rfl, by decide +kernel, rfl, by decide +kernel, by decide +kernel⟩
abbrev s_over : Stmt := topS 8
abbrev N_over : List Str := ["one", "two"]
theorem sc_over : FnScope N_over ["one", "two"] (defScope s_over) := ⟨rfl, rfl, rfl, by decide +kernel, rfl, by decide +kernel, by decide +kernel⟩
abbrev s_sign : Stmt := topS 9
abbrev N_sign : List Str := ["number"]
theorem sc_sign : FnScope N_sign ["number"] (defScope s_sign) := ⟨rfl, rfl, rfl, by decide +kernel, rfl, by decide +kernel, by decide +kernel⟩
abbrev s_compare : Stmt := topS 10
abbrev N_compare : List Str := ["one", "two"]
theorem sc_compare : FnScope N_compare ["one", "two"] (defScope s_compare) := ⟨rfl, rfl, rfl, by decide +kernel, rfl, by decide +kernel, by decide +kernel⟩
abbrev s_floor_of : Stmt := topS 11
abbrev N_floor_of : List Str := ["one"]
theorem sc_floor_of : FnScope N_floor_of ["one"] (defScope s_floor_of) := ⟨rfl, rfl, rfl, by decide +kernel, rfl, by decide +kernel, by decide +kernel⟩
abbrev s_ceiling_of : Stmt := topS 12
abbrev N_ceiling_of : List Str := ["one"]
theorem sc_ceiling_of : FnScope N_ceiling_of ["one"] (defScope s_ceiling_of) := ⟨rfl, rfl, rfl, by decide +kernel, rfl, by decide +kernel, by decide +kernel⟩
abbrev s_simplest_between : Stmt := topS 13
abbrev N_simplest_between : List Str := ["low", "high", "whole", "first", "second", "rest"]
theorem sc_simplest_between : FnScope N_simplest_between ["low", "high"] (defScope s_simplest_between) := ⟨rfl, rfl, rfl, by decide +kernel, rfl, by decide +kernel, by decide +kernel⟩
abbrev s__law_cell : Stmt := topS 15
abbrev N__law_cell : List Str := ["script", "k", "cell"]
theorem sc__law_cell : FnScope N__law_cell ["script", "k"] (defScope s__law_cell) := ⟨rfl, rfl, rfl, by decide +kernel, rfl, by decide +kernel, by decide +kernel⟩
abbrev s__law_take : Stmt := topS 16
abbrev N__law_take : List Str := ["state", "m", "x"]
theorem sc__law_take : FnScope N__law_take ["state", "m"] (defScope s__law_take) := ⟨rfl, rfl, rfl, by decide +kernel, rfl, by decide +kernel, by decide +kernel⟩
abbrev s__law_big : Stmt := topS 17
abbrev N__law_big : List Str := ["script", "at", "count", "found", "k"]
theorem sc__law_big : FnScope N__law_big ["script", "at", "count"] (defScope s__law_big) := ⟨rfl, rfl, rfl, by decide +kernel, rfl, by decide +kernel, by decide +kernel⟩
abbrev s__law_divisor : Stmt := topS 18
abbrev N__law_divisor : List Str := ["one", "two", "turn"]
theorem sc__law_divisor : FnScope N__law_divisor ["one", "two"] (defScope s__law_divisor) := ⟨rfl, rfl, rfl, by decide +kernel, rfl, by decide +kernel, by decide +kernel⟩
abbrev s__law_ratio : Stmt := topS 19
abbrev N__law_ratio : List Str := ["p", "q", "divisor"]
theorem sc__law_ratio : FnScope N__law_ratio ["p", "q"] (defScope s__law_ratio) := ⟨rfl, rfl, rfl, by decide +kernel, rfl, by decide +kernel, by decide +kernel⟩
abbrev s__law_is_ratio : Stmt := topS 20
abbrev N__law_is_ratio : List Str := ["pair", "x"]
theorem sc__law_is_ratio : FnScope N__law_is_ratio ["pair"] (defScope s__law_is_ratio) := ⟨rfl, rfl, rfl, by decide +kernel, rfl, by decide +kernel, by decide +kernel⟩
abbrev s__law_simplest : Stmt := topS 21
abbrev N__law_simplest : List Str := ["low", "high", "denominator", "first", "last"]
theorem sc__law_simplest : FnScope N__law_simplest ["low", "high"] (defScope s__law_simplest) := ⟨rfl, rfl, rfl, by decide +kernel, rfl, by decide +kernel, by decide +kernel⟩
abbrev s_law : Stmt := topS 22
abbrev N_law : List Str := ["script", "state", "most", "one", "two", "near", "low", "high", "told"]
theorem sc_law : FnScope N_law ["script"] (defScope s_law) := ⟨rfl, rfl, rfl, by decide +kernel, rfl, by decide +kernel, by decide +kernel⟩
structure Top (K : PySem.W.Frag) (mg : Str → Option Value) where
  f_common_divisor : Addr
  fd_common_divisor : FuncData
  F_common_divisor : Fun K "common_divisor" "common_divisor" s_common_divisor f_common_divisor fd_common_divisor
  b_common_divisor : Binds K fd_common_divisor ["one", "two"] []
  m_common_divisor : mg "common_divisor" = some (.ref f_common_divisor)
  f_ratio : Addr
  fd_ratio : FuncData
  F_ratio : Fun K "ratio" "ratio" s_ratio f_ratio fd_ratio
  b_ratio : Binds K fd_ratio ["numerator", "denominator"] []
  m_ratio : mg "ratio" = some (.ref f_ratio)
  f_plus : Addr
  fd_plus : FuncData
  F_plus : Fun K "plus" "plus" s_plus f_plus fd_plus
  b_plus : Binds K fd_plus ["one", "two"] []
  m_plus : mg "plus" = some (.ref f_plus)
  f_minus : Addr
  fd_minus : FuncData
  F_minus : Fun K "minus" "minus" s_minus f_minus fd_minus
  b_minus : Binds K fd_minus ["one", "two"] []
  m_minus : mg "minus" = some (.ref f_minus)
  f_over : Addr
  fd_over : FuncData
  F_over : Fun K "over" "over" s_over f_over fd_over
  b_over : Binds K fd_over ["one", "two"] []
  m_over : mg "over" = some (.ref f_over)
  f_sign : Addr
  fd_sign : FuncData
  F_sign : Fun K "sign" "sign" s_sign f_sign fd_sign
  b_sign : Binds K fd_sign ["number"] []
  m_sign : mg "sign" = some (.ref f_sign)
  f_compare : Addr
  fd_compare : FuncData
  F_compare : Fun K "compare" "compare" s_compare f_compare fd_compare
  b_compare : Binds K fd_compare ["one", "two"] []
  m_compare : mg "compare" = some (.ref f_compare)
  f_floor_of : Addr
  fd_floor_of : FuncData
  F_floor_of : Fun K "floor_of" "floor_of" s_floor_of f_floor_of fd_floor_of
  b_floor_of : Binds K fd_floor_of ["one"] []
  m_floor_of : mg "floor_of" = some (.ref f_floor_of)
  f_ceiling_of : Addr
  fd_ceiling_of : FuncData
  F_ceiling_of : Fun K "ceiling_of" "ceiling_of" s_ceiling_of f_ceiling_of fd_ceiling_of
  b_ceiling_of : Binds K fd_ceiling_of ["one"] []
  m_ceiling_of : mg "ceiling_of" = some (.ref f_ceiling_of)
  f_simplest_between : Addr
  fd_simplest_between : FuncData
  F_simplest_between : Fun K "simplest_between" "simplest_between" s_simplest_between f_simplest_between fd_simplest_between
  b_simplest_between : Binds K fd_simplest_between ["low", "high"] []
  m_simplest_between : mg "simplest_between" = some (.ref f_simplest_between)
  f__law_cell : Addr
  fd__law_cell : FuncData
  F__law_cell : Fun K "_law_cell" "_law_cell" s__law_cell f__law_cell fd__law_cell
  b__law_cell : Binds K fd__law_cell ["script", "k"] []
  m__law_cell : mg "_law_cell" = some (.ref f__law_cell)
  f__law_take : Addr
  fd__law_take : FuncData
  F__law_take : Fun K "_law_take" "_law_take" s__law_take f__law_take fd__law_take
  b__law_take : Binds K fd__law_take ["state", "m"] []
  m__law_take : mg "_law_take" = some (.ref f__law_take)
  f__law_big : Addr
  fd__law_big : FuncData
  F__law_big : Fun K "_law_big" "_law_big" s__law_big f__law_big fd__law_big
  b__law_big : Binds K fd__law_big ["script", "at", "count"] []
  m__law_big : mg "_law_big" = some (.ref f__law_big)
  f__law_divisor : Addr
  fd__law_divisor : FuncData
  F__law_divisor : Fun K "_law_divisor" "_law_divisor" s__law_divisor f__law_divisor fd__law_divisor
  b__law_divisor : Binds K fd__law_divisor ["one", "two"] []
  m__law_divisor : mg "_law_divisor" = some (.ref f__law_divisor)
  f__law_ratio : Addr
  fd__law_ratio : FuncData
  F__law_ratio : Fun K "_law_ratio" "_law_ratio" s__law_ratio f__law_ratio fd__law_ratio
  b__law_ratio : Binds K fd__law_ratio ["p", "q"] []
  m__law_ratio : mg "_law_ratio" = some (.ref f__law_ratio)
  f__law_is_ratio : Addr
  fd__law_is_ratio : FuncData
  F__law_is_ratio : Fun K "_law_is_ratio" "_law_is_ratio" s__law_is_ratio f__law_is_ratio fd__law_is_ratio
  b__law_is_ratio : Binds K fd__law_is_ratio ["pair"] []
  m__law_is_ratio : mg "_law_is_ratio" = some (.ref f__law_is_ratio)
  f__law_simplest : Addr
  fd__law_simplest : FuncData
  F__law_simplest : Fun K "_law_simplest" "_law_simplest" s__law_simplest f__law_simplest fd__law_simplest
  b__law_simplest : Binds K fd__law_simplest ["low", "high"] []
  m__law_simplest : mg "_law_simplest" = some (.ref f__law_simplest)
  f_law : Addr
  fd_law : FuncData
  F_law : Fun K "law" "law" s_law f_law fd_law
  b_law : Binds K fd_law ["script"] []
  m_law : mg "law" = some (.ref f_law)
  z_abs : mg "abs" = none
  z_bool : mg "bool" = none
  z_int : mg "int" = none
  z_isinstance : mg "isinstance" = none
  z_len : mg "len" = none
  z_range : mg "range" = none
  z_tuple : mg "tuple" = none
section
variable {P : Program} {w : World} {K : PySem.W.Frag} {mg : Str → Option Value} {base : Heap}
theorem ok_common_divisor (T : Top K mg) : FnOk P w K mg base CX0 1 T.f_common_divisor T.fd_common_divisor ["one", "two"] (spOf K mg sp_common_divisor) :=
  fn_ok (N := N_common_divisor) T.F_common_divisor sc_common_divisor (fun _ => rfl) k_common_divisor fun cdv A outer s₀ H E hr =>
  (show PSs _ _ (LS _ d_common_divisor) from (dss_cons (ds_par (i := 0) (j := 1) rfl sc_common_divisor.nd rfl rfl (by decide) rfl rfl (da_cons (de_abs (by rfl) T.z_abs (de_var (pv 0))) (da_cons (de_abs (by rfl) T.z_abs (de_var (pv 1))) da_nil)) (by rfl))
  (dss_cons (ds_while PassesOwn.never (dt_cmp os_gt (de_var (pv 1)) de_int (nomark _)) (dss_one (ds_par (i := 0) (j := 1) rfl sc_common_divisor.nd rfl rfl (by decide) rfl rfl (da_cons (de_var (pv 1)) (da_cons (de_op os_mod (de_var (pv 0)) (de_var (pv 1))) da_nil)) (by rfl))))
  (dss_one (ds_ret (de_var (pv 0)))))))
theorem ok_ratio (T : Top K mg) : FnOk P w K mg base CX0 2 T.f_ratio T.fd_ratio ["numerator", "denominator"] (spOf K mg sp_ratio) :=
  fn_ok (N := N_ratio) T.F_ratio sc_ratio (fun _ => rfl) k_ratio fun cdv A outer s₀ H E hr =>
  (show PSs _ _ (LS _ d_ratio) from (dss_cons (ds_if (dt_cmp (os_eq hr.units) (de_var (pv 1)) de_int (nomark _)) (dss_one ds_never) dss_nil)
  (dss_cons (ds_set (i := 2) sc_ratio.nd rfl (Or.inl rfl) (de_call (ok_common_divisor T) (hr.mono (by decide)) (by rfl) T.m_common_divisor T.F_common_divisor.kp T.b_common_divisor (da_cons (de_var (pv 0)) (da_cons (de_var (pv 1)) da_nil))))
  (dss_cons (ds_if (dt_cmp os_lt (de_var (pv 1)) de_int (nomark _)) (dss_one (ds_set (i := 2) sc_ratio.nd rfl (Or.inl rfl) (de_neg (de_var (pv 2))))) dss_nil)
  (dss_one (ds_ret (de_tup (da_cons (de_op os_fdiv (de_var (pv 0)) (de_var (pv 2))) (da_cons (de_op os_fdiv (de_var (pv 1)) (de_var (pv 2))) da_nil)))))))))
theorem ok_plus (T : Top K mg) : FnOk P w K mg base CX0 3 T.f_plus T.fd_plus ["one", "two"] (spOf K mg sp_plus) :=
  fn_ok (N := N_plus) T.F_plus sc_plus (fun _ => rfl) k_plus fun cdv A outer s₀ H E hr =>
  (show PSs _ _ (LS _ d_plus) from (dss_one (ds_ret (de_call (ok_ratio T) (hr.mono (by decide)) (by rfl) T.m_ratio T.F_ratio.kp T.b_ratio (da_cons (de_op os_add (de_op os_mul (de_ix (de_var (pv 0)) de_int (fun _ _ => rfl)) (de_ix (de_var (pv 1)) de_int (fun _ _ => rfl))) (de_op os_mul (de_ix (de_var (pv 1)) de_int (fun _ _ => rfl)) (de_ix (de_var (pv 0)) de_int (fun _ _ => rfl)))) (da_cons (de_op os_mul (de_ix (de_var (pv 0)) de_int (fun _ _ => rfl)) (de_ix (de_var (pv 1)) de_int (fun _ _ => rfl))) da_nil))))))
theorem ok_minus (T : Top K mg) : FnOk P w K mg base CX0 3 T.f_minus T.fd_minus ["one", "two"] (spOf K mg sp_minus) :=
  fn_ok (N := N_minus) T.F_minus sc_minus (fun _ => rfl) k_minus fun cdv A outer s₀ H E hr =>
  (show PSs _ _ (LS _ d_minus) from (dss_one (ds_ret (de_call (ok_ratio T) (hr.mono (by decide)) (by rfl) T.m_ratio T.F_ratio.kp T.b_ratio (da_cons (de_op os_sub (de_op os_mul (de_ix (de_var (pv 0)) de_int (fun _ _ => rfl)) (de_ix (de_var (pv 1)) de_int (fun _ _ => rfl))) (de_op os_mul (de_ix (de_var (pv 1)) de_int (fun _ _ => rfl)) (de_ix (de_var (pv 0)) de_int (fun _ _ => rfl)))) (da_cons (de_op os_mul (de_ix (de_var (pv 0)) de_int (fun _ _ => rfl)) (de_ix (de_var (pv 1)) de_int (fun _ _ => rfl))) da_nil))))))
theorem ok_over (T : Top K mg) : FnOk P w K mg base CX0 3 T.f_over T.fd_over ["one", "two"] (spOf K mg sp_over) :=
  fn_ok (N := N_over) T.F_over sc_over (fun _ => rfl) k_over fun cdv A outer s₀ H E hr =>
  (show PSs _ _ (LS _ d_over) from (dss_one (ds_ret (de_call (ok_ratio T) (hr.mono (by decide)) (by rfl) T.m_ratio T.F_ratio.kp T.b_ratio (da_cons (de_op os_mul (de_ix (de_var (pv 0)) de_int (fun _ _ => rfl)) (de_ix (de_var (pv 1)) de_int (fun _ _ => rfl))) (da_cons (de_op os_mul (de_ix (de_var (pv 0)) de_int (fun _ _ => rfl)) (de_ix (de_var (pv 1)) de_int (fun _ _ => rfl))) da_nil))))))
theorem ok_sign (T : Top K mg) : FnOk P w K mg base CX0 1 T.f_sign T.fd_sign ["number"] (spOf K mg sp_sign) :=
  fn_ok (N := N_sign) T.F_sign sc_sign (fun _ => rfl) k_sign fun cdv A outer s₀ H E hr =>
  (show PSs _ _ (LS _ d_sign) from (dss_cons (ds_if (dt_cmp os_gt (de_var (pv 0)) de_int (nomark _)) (dss_one (ds_ret de_int)) dss_nil)
  (dss_one (ds_ret (de_if (dt_cmp os_lt (de_var (pv 0)) de_int (nomark _)) (de_neg de_int) de_int)))))
theorem ok_compare (T : Top K mg) : FnOk P w K mg base CX0 2 T.f_compare T.fd_compare ["one", "two"] (spOf K mg sp_compare) :=
  fn_ok (N := N_compare) T.F_compare sc_compare (fun _ => rfl) k_compare fun cdv A outer s₀ H E hr =>
  (show PSs _ _ (LS _ d_compare) from (dss_one (ds_ret (de_call (ok_sign T) (hr.mono (by decide)) (by rfl) T.m_sign T.F_sign.kp T.b_sign (da_cons (de_op os_sub (de_op os_mul (de_ix (de_var (pv 0)) de_int (fun _ _ => rfl)) (de_ix (de_var (pv 1)) de_int (fun _ _ => rfl))) (de_op os_mul (de_ix (de_var (pv 1)) de_int (fun _ _ => rfl)) (de_ix (de_var (pv 0)) de_int (fun _ _ => rfl)))) da_nil)))))
theorem ok_floor_of (T : Top K mg) : FnOk P w K mg base CX0 1 T.f_floor_of T.fd_floor_of ["one"] (spOf K mg sp_floor_of) :=
  fn_ok (N := N_floor_of) T.F_floor_of sc_floor_of (fun _ => rfl) k_floor_of fun cdv A outer s₀ H E hr =>
  (show PSs _ _ (LS _ d_floor_of) from (dss_one (ds_ret (de_op os_fdiv (de_ix (de_var (pv 0)) de_int (fun _ _ => rfl)) (de_ix (de_var (pv 0)) de_int (fun _ _ => rfl))))))
theorem ok_ceiling_of (T : Top K mg) : FnOk P w K mg base CX0 1 T.f_ceiling_of T.fd_ceiling_of ["one"] (spOf K mg sp_ceiling_of) :=
  fn_ok (N := N_ceiling_of) T.F_ceiling_of sc_ceiling_of (fun _ => rfl) k_ceiling_of fun cdv A outer s₀ H E hr =>
  (show PSs _ _ (LS _ d_ceiling_of) from (dss_one (ds_ret (de_neg (de_op os_fdiv (de_neg (de_ix (de_var (pv 0)) de_int (fun _ _ => rfl))) (de_ix (de_var (pv 0)) de_int (fun _ _ => rfl)))))))
theorem ok_simplest_between (T : Top K mg) : ∀ n : Nat, FnOk P w K mg base CX0 (3 + n) T.f_simplest_between T.fd_simplest_between ["low", "high"] (spOf K mg (sp_simplest_between n))
  | 0 => fn_none (fun y h => absurd h.1 (Nat.lt_irrefl 0))
  | n + 1 => fn_ok (k := 3 + n) (N := N_simplest_between) T.F_simplest_between sc_simplest_between (fun _ => rfl) (k_simplest_between n) fun cdv A outer s₀ H E hr =>
    have self := ok_simplest_between T n
    (show PSs _ _ (LS _ (d_simplest_between n)) from (dss_cons (ds_set (i := 2) sc_simplest_between.nd rfl (Or.inl rfl) (de_call (ok_floor_of T) (hr.mono (by omega)) (by rfl) T.m_floor_of T.F_floor_of.kp T.b_floor_of (da_cons (de_var (pv 0)) da_nil)))
  (dss_cons (ds_if (dt_cmp os_lt (de_call (ok_compare T) (hr.mono (by omega)) (by rfl) T.m_compare T.F_compare.kp T.b_compare (da_cons (de_tup (da_cons (de_op os_add (de_var (pv 2)) de_int) (da_cons de_int da_nil))) (da_cons (de_var (pv 1)) da_nil))) de_int (nomark _)) (dss_cons (ds_if (dt_chain os_lt os_lt (de_ix (de_var (pv 0)) de_int (fun _ _ => rfl)) de_int (de_ix (de_var (pv 1)) de_int (fun _ _ => rfl))) (dss_one (ds_ret (de_tup (da_cons de_int (da_cons de_int da_nil))))) dss_nil)
  (dss_cons (ds_if (dt_cmp os_le (de_ix (de_var (pv 1)) de_int (fun _ _ => rfl)) de_int (nomark _)) (dss_one (ds_ret (de_tup (da_cons (de_op os_sub (de_call (ok_ceiling_of T) (hr.mono (by omega)) (by rfl) T.m_ceiling_of T.F_ceiling_of.kp T.b_ceiling_of (da_cons (de_var (pv 1)) da_nil)) de_int) (da_cons de_int da_nil))))) dss_nil)
  (dss_one (ds_ret (de_tup (da_cons (de_op os_add (de_var (pv 2)) de_int) (da_cons de_int da_nil))))))) dss_nil)
  (dss_cons (ds_set (i := 3) sc_simplest_between.nd rfl (Or.inl rfl) (de_call (ok_minus T) (hr.mono (by omega)) (by rfl) T.m_minus T.F_minus.kp T.b_minus (da_cons (de_var (pv 0)) (da_cons (de_tup (da_cons (de_var (pv 2)) (da_cons de_int da_nil))) da_nil))))
  (dss_cons (ds_set (i := 4) sc_simplest_between.nd rfl (Or.inl rfl) (de_call (ok_minus T) (hr.mono (by omega)) (by rfl) T.m_minus T.F_minus.kp T.b_minus (da_cons (de_var (pv 1)) (da_cons (de_tup (da_cons (de_var (pv 2)) (da_cons de_int da_nil))) da_nil))))
  (dss_cons (ds_if (dt_cmp (os_eq hr.units) (de_ix (de_var (pv 3)) de_int (fun _ _ => rfl)) de_int (nomark _)) (dss_one (ds_ret (de_call (ok_plus T) (hr.mono (by omega)) (by rfl) T.m_plus T.F_plus.kp T.b_plus (da_cons (de_tup (da_cons (de_var (pv 2)) (da_cons de_int da_nil))) (da_cons (de_tup (da_cons de_int (da_cons (de_op os_add (de_call (ok_floor_of T) (hr.mono (by omega)) (by rfl) T.m_floor_of T.F_floor_of.kp T.b_floor_of (da_cons (de_call (ok_over T) (hr.mono (by omega)) (by rfl) T.m_over T.F_over.kp T.b_over (da_cons (de_tup (da_cons de_int (da_cons de_int da_nil))) (da_cons (de_var (pv 4)) da_nil))) da_nil)) de_int) da_nil))) da_nil))))) dss_nil)
  (dss_cons (ds_set (i := 5) sc_simplest_between.nd rfl (Or.inl rfl) (de_call self (hr.mono (by omega)) (by rfl) T.m_simplest_between T.F_simplest_between.kp T.b_simplest_between (da_cons (de_call (ok_over T) (hr.mono (by omega)) (by rfl) T.m_over T.F_over.kp T.b_over (da_cons (de_tup (da_cons de_int (da_cons de_int da_nil))) (da_cons (de_var (pv 4)) da_nil))) (da_cons (de_call (ok_over T) (hr.mono (by omega)) (by rfl) T.m_over T.F_over.kp T.b_over (da_cons (de_tup (da_cons de_int (da_cons de_int da_nil))) (da_cons (de_var (pv 3)) da_nil))) da_nil))))
  (dss_one (ds_ret (de_call (ok_plus T) (hr.mono (by omega)) (by rfl) T.m_plus T.F_plus.kp T.b_plus (da_cons (de_tup (da_cons (de_var (pv 2)) (da_cons de_int da_nil))) (da_cons (de_call (ok_over T) (hr.mono (by omega)) (by rfl) T.m_over T.F_over.kp T.b_over (da_cons (de_tup (da_cons de_int (da_cons de_int da_nil))) (da_cons (de_var (pv 5)) da_nil))) da_nil))))))))))))
theorem ok__law_cell (T : Top K mg) : FnOk P w K mg base CX0 1 T.f__law_cell T.fd__law_cell ["script", "k"] (spOf K mg sp__law_cell) :=
  fn_ok (N := N__law_cell) T.F__law_cell sc__law_cell (fun _ => rfl) k__law_cell fun cdv A outer s₀ H E hr =>
  (show PSs _ _ (LS _ d__law_cell) from (dss_cons (ds_if (PW.pt (dw_and (dt_cmp os_lt (de_var (pv 1)) (de_len (by rfl) T.z_len (de_var (pv 0))) (nomark _)) (dw_and1 (dt_cmp os_ge (de_ix (de_var (pv 0)) (de_var (pv 1)) (fun _ _ => rfl)) (de_op os_pow de_int de_int) (nomark _))))) (dss_one (ds_ret (de_ix (de_var (pv 0)) (de_var (pv 1)) (fun _ _ => rfl)))) dss_nil)
  (dss_cons (ds_set (i := 2) sc__law_cell.nd rfl (Or.inl rfl) (de_op os_add (de_op os_mul de_int (de_var (pv 1))) de_int))
  (dss_cons (ds_if (dt_cmp os_gt (de_len (by rfl) T.z_len (de_var (pv 0))) de_int (nomark _)) (dss_one (ds_set (i := 2) sc__law_cell.nd rfl (Or.inl rfl) (de_op os_add (de_var (pv 2)) (de_op os_mul de_int (de_ix (de_var (pv 0)) (de_op os_mod (de_tint (by rfl) T.z_int (de_var (pv 1))) (de_len (by rfl) T.z_len (de_var (pv 0)))) (fun _ _ => rfl)))))) dss_nil)
  (dss_cons (ds_set (i := 2) sc__law_cell.nd rfl (Or.inl rfl) (de_op os_mod (de_tint (by rfl) T.z_int (de_op os_add (de_op os_mul (de_var (pv 2)) de_int) (de_op os_mul de_int (de_var (pv 1))))) de_int))
  (dss_one (ds_ret (de_op os_mod (de_tint (by rfl) T.z_int (de_op os_add (de_op os_mul (de_var (pv 2)) de_int) (de_op os_mul de_int (de_op os_fdiv (de_var (pv 2)) de_int)))) de_int))))))))
theorem ok__law_take (T : Top K mg) : FnOk P w K mg base CX0 1 T.f__law_take T.fd__law_take ["state", "m"] (spOfS K mg sp__law_take) :=
  fn_okS (N := N__law_take) T.F__law_take sc__law_take (fun _ => rfl) k__law_take fun cdv A outer s₀ H E hr =>
  (show PSs _ _ (LS _ d__law_take) from (dss_cons (ds_set (i := 2) sc__law_take.nd rfl (Or.inl rfl) (de_op os_mod (de_tint (by rfl) T.z_int (de_ix (de_var (pv 0)) de_int (fun _ _ => rfl))) (de_var (pv 1))))
  (dss_cons (ds_store (de_tint (by rfl) T.z_int (de_op os_fdiv (de_ix (de_var (pv 0)) de_int (fun _ _ => rfl)) (de_var (pv 1)))) (pv 0) de_int)
  (dss_one (ds_ret (de_var (pv 2)))))))
theorem ok__law_big (T : Top K mg) : FnOk P w K mg base CX0 2 T.f__law_big T.fd__law_big ["script", "at", "count"] (spOf K mg sp__law_big) :=
  fn_ok (N := N__law_big) T.F__law_big sc__law_big (fun _ => rfl) k__law_big fun cdv A outer s₀ H E hr =>
  (show PSs _ _ (LS _ d__law_big) from (dss_cons (ds_set (i := 3) sc__law_big.nd rfl (Or.inl rfl) de_int)
  (dss_cons (ds_for PassesOwn.never rfl (di_range1 (by rfl) T.z_range (da_cons (de_var (pv 2)) da_nil)) (dg_name (pg_name (i := 4) sc__law_big.nd rfl (Or.inl rfl))) (dss_one (ds_set (i := 3) sc__law_big.nd rfl (Or.inl rfl) (de_op os_add (de_op os_mul (de_var (pv 3)) de_int) (de_call (ok__law_cell T) (hr.mono (by decide)) (by rfl) T.m__law_cell T.F__law_cell.kp T.b__law_cell (da_cons (de_var (pv 0)) (da_cons (de_op os_add (de_var (pv 1)) (de_var (pv 4))) da_nil)))))))
  (dss_one (ds_ret (de_lst (da_cons (de_var (pv 3)) da_nil)))))))
theorem ok__law_divisor (T : Top K mg) : FnOk P w K mg base CX0 1 T.f__law_divisor T.fd__law_divisor ["one", "two"] (spOf K mg sp__law_divisor) :=
  fn_ok (N := N__law_divisor) T.F__law_divisor sc__law_divisor (fun _ => rfl) k__law_divisor fun cdv A outer s₀ H E hr =>
  (show PSs _ _ (LS _ d__law_divisor) from (dss_cons (ds_set (i := 0) sc__law_divisor.nd rfl (Or.inl rfl) (de_abs (by rfl) T.z_abs (de_var (pv 0))))
  (dss_cons (ds_set (i := 1) sc__law_divisor.nd rfl (Or.inl rfl) (de_abs (by rfl) T.z_abs (de_var (pv 1))))
  (dss_cons (ds_for PassesOwn.never rfl (di_range1 (by rfl) T.z_range (da_cons de_int da_nil)) (dg_name (pg_name (i := 2) sc__law_divisor.nd rfl (Or.inl rfl))) (dss_cons (ds_if (dt_cmp (os_eq hr.units) (de_var (pv 1)) de_int (nomark _)) (dss_one ds_brk) dss_nil)
  (dss_one (ds_par (i := 0) (j := 1) rfl sc__law_divisor.nd rfl rfl (by decide) rfl rfl (da_cons (de_var (pv 1)) (da_cons (de_op os_mod (de_tint (by rfl) T.z_int (de_var (pv 0))) (de_var (pv 1))) da_nil)) (by rfl)))))
  (dss_one (ds_ret (de_var (pv 0))))))))
theorem ok__law_ratio (T : Top K mg) : FnOk P w K mg base CX0 2 T.f__law_ratio T.fd__law_ratio ["p", "q"] (spOf K mg sp__law_ratio) :=
  fn_ok (N := N__law_ratio) T.F__law_ratio sc__law_ratio (fun _ => rfl) k__law_ratio fun cdv A outer s₀ H E hr =>
  (show PSs _ _ (LS _ d__law_ratio) from (dss_cons (ds_set (i := 2) sc__law_ratio.nd rfl (Or.inl rfl) (de_call (ok__law_divisor T) (hr.mono (by decide)) (by rfl) T.m__law_divisor T.F__law_divisor.kp T.b__law_divisor (da_cons (de_var (pv 0)) (da_cons (de_var (pv 1)) da_nil))))
  (dss_cons (ds_if (dt_cmp os_lt (de_var (pv 1)) de_int (nomark _)) (dss_one (ds_set (i := 2) sc__law_ratio.nd rfl (Or.inl rfl) (de_neg (de_var (pv 2))))) dss_nil)
  (dss_one (ds_ret (de_tup (da_cons (de_tint (by rfl) T.z_int (de_op os_fdiv (de_var (pv 0)) (de_var (pv 2)))) (da_cons (de_tint (by rfl) T.z_int (de_op os_fdiv (de_var (pv 1)) (de_var (pv 2)))) da_nil))))))))
theorem ok__law_is_ratio (T : Top K mg) : FnOk P w K mg base CX0 2 T.f__law_is_ratio T.fd__law_is_ratio ["pair"] (spOf K mg sp__law_is_ratio) :=
  fn_ok (N := N__law_is_ratio) T.F__law_is_ratio sc__law_is_ratio (fun _ => rfl) k__law_is_ratio fun cdv A outer s₀ H E hr =>
  (show PSs _ _ (LS _ d__law_is_ratio) from (dss_cons (ds_if (PW.pt (dw_or (dt_not (dt_tru (de_isi .tuple (by rfl) T.z_isinstance (de_var (pv 0)) (pe_bltn (v := .ty "tuple") (by rfl) T.z_tuple (by decide +kernel) rfl)))) (dw_or (dt_cmp (os_ne hr.units) (de_len (by rfl) T.z_len (de_var (pv 0))) de_int (nomark _)) (dw_or1 (dt_cmp os_in de_bl (de_lc rfl sc__law_is_ratio.nd (di_seq (de_var (pv 0))) (blkOk_by (own := [("x", 1)]) (N := N__law_is_ratio) (sc := defScope s__law_is_ratio) (by decide +kernel)) (by first | exact List.mem_cons_self | (refine ⟨?_, ?_⟩ <;> simp) | (refine ⟨?_, ?_, ?_⟩ <;> simp)) (fun _ _ _ _ _ => (pg_name (i := 1) sc__law_is_ratio.nd rfl (Or.inl rfl))) (fun _ _ _ _ _ => dts_nil) (fun _ _ _ _ _ => (de_and (de_isi .int (by rfl) T.z_isinstance (de_var (pv 1)) (pe_bltn (v := .ty "int") (by rfl) T.z_int (by decide +kernel) rfl)) (de_one (de_not (de_isi .bool (by rfl) T.z_isinstance (de_var (pv 1)) (pe_bltn (v := .ty "bool") (by rfl) T.z_bool (by decide +kernel) rfl)))))) (own := [("x", 1)]) (g := CT.one 1)) (by rfl)))))) (dss_one (ds_ret de_bl)) dss_nil)
  (dss_one (ds_ret (de_and (de_cmp os_gt (de_ix (de_var (pv 0)) de_int (fun _ _ => rfl)) de_int (nomark _)) (de_one (de_cmp (os_eq hr.units) (de_call (ok__law_divisor T) (hr.mono (by decide)) (by rfl) T.m__law_divisor T.F__law_divisor.kp T.b__law_divisor (da_cons (de_ix (de_var (pv 0)) de_int (fun _ _ => rfl)) (da_cons (de_ix (de_var (pv 0)) de_int (fun _ _ => rfl)) da_nil))) de_int (nomark _))))))))
theorem ok__law_simplest (T : Top K mg) : FnOk P w K mg base CX0 1 T.f__law_simplest T.fd__law_simplest ["low", "high"] (spOf K mg sp__law_simplest) :=
  fn_ok (N := N__law_simplest) T.F__law_simplest sc__law_simplest (fun _ => rfl) k__law_simplest fun cdv A outer s₀ H E hr =>
  (show PSs _ _ (LS _ d__law_simplest) from (dss_cons (ds_for PassesOwn.never rfl (di_range2 (by rfl) T.z_range (da_cons de_int (da_cons de_int da_nil))) (dg_name (pg_name (i := 2) sc__law_simplest.nd rfl (Or.inl rfl))) (dss_cons (ds_set (i := 3) sc__law_simplest.nd rfl (Or.inl rfl) (de_op os_add (de_tint (by rfl) T.z_int (de_op os_fdiv (de_op os_mul (de_ix (de_var (pv 0)) de_int (fun _ _ => rfl)) (de_var (pv 2))) (de_ix (de_var (pv 0)) de_int (fun _ _ => rfl)))) de_int))
  (dss_one (ds_if (dt_cmp os_lt (de_op os_mul (de_var (pv 3)) (de_ix (de_var (pv 1)) de_int (fun _ _ => rfl))) (de_op os_mul (de_ix (de_var (pv 1)) de_int (fun _ _ => rfl)) (de_var (pv 2))) (nomark _)) (dss_cons (ds_set (i := 4) sc__law_simplest.nd rfl (Or.inl rfl) (de_op os_sub (de_neg (de_tint (by rfl) T.z_int (de_op os_fdiv (de_op os_mul (de_neg (de_ix (de_var (pv 1)) de_int (fun _ _ => rfl))) (de_var (pv 2))) (de_ix (de_var (pv 1)) de_int (fun _ _ => rfl))))) de_int))
  (dss_cons (ds_if (dt_chain os_le os_le (de_var (pv 3)) de_int (de_var (pv 4))) (dss_one (ds_ret (de_tup (da_cons de_int (da_cons de_int da_nil))))) dss_nil)
  (dss_one (ds_ret (de_if (dt_cmp os_gt (de_var (pv 3)) de_int (nomark _)) (de_tup (da_cons (de_var (pv 3)) (da_cons (de_var (pv 2)) da_nil))) (de_tup (da_cons (de_var (pv 4)) (da_cons (de_var (pv 2)) da_nil)))))))) dss_nil))))
  (dss_one (ds_ret de_non))))
theorem ok_law (T : Top K mg) : FnOk P w K mg base CX0 44 T.f_law T.fd_law ["script"] (spOf K mg sp_law) :=
  fn_ok (N := N_law) T.F_law sc_law (fun _ => rfl) k_law fun cdv A outer s₀ H E hr =>
  (show PSs _ _ (LS _ d_law) from (dss_cons (ds_own (i := 1) sc_law.nd rfl (Or.inl rfl) (de_call (ok__law_big T) (hr.mono (by decide)) (by rfl) T.m__law_big T.F__law_big.kp T.b__law_big (da_cons (de_var (pv 0)) (da_cons de_int (da_cons de_int da_nil)))))
  (dss_cons (ds_set (i := 2) sc_law.nd rfl (Or.inl rfl) (de_if (dt_cmp (os_eq hr.units) (de_callS (ok__law_take T) (hr.mono (by decide)) (by rfl) T.m__law_take T.F__law_take.kp T.b__law_take (pv 1) (da_cons de_int da_nil)) de_int (nomark _)) de_int de_int))
  (dss_cons (ds_set (i := 3) sc_law.nd rfl (Or.inl rfl) (de_call (ok__law_ratio T) (hr.mono (by decide)) (by rfl) T.m__law_ratio T.F__law_ratio.kp T.b__law_ratio (da_cons (de_op os_sub (de_callS (ok__law_take T) (hr.mono (by decide)) (by rfl) T.m__law_take T.F__law_take.kp T.b__law_take (pv 1) (da_cons (de_op os_mul de_int (de_var (pv 2))) da_nil)) (de_op os_mul de_int (de_var (pv 2)))) (da_cons (de_op os_add de_int (de_callS (ok__law_take T) (hr.mono (by decide)) (by rfl) T.m__law_take T.F__law_take.kp T.b__law_take (pv 1) (da_cons (de_var (pv 2)) da_nil))) da_nil))))
  (dss_cons (ds_set (i := 4) sc_law.nd rfl (Or.inl rfl) (de_call (ok__law_ratio T) (hr.mono (by decide)) (by rfl) T.m__law_ratio T.F__law_ratio.kp T.b__law_ratio (da_cons (de_op os_sub (de_callS (ok__law_take T) (hr.mono (by decide)) (by rfl) T.m__law_take T.F__law_take.kp T.b__law_take (pv 1) (da_cons (de_op os_mul de_int (de_var (pv 2))) da_nil)) (de_op os_mul de_int (de_var (pv 2)))) (da_cons (de_op os_add de_int (de_callS (ok__law_take T) (hr.mono (by decide)) (by rfl) T.m__law_take T.F__law_take.kp T.b__law_take (pv 1) (da_cons (de_var (pv 2)) da_nil))) da_nil))))
  (dss_cons (ds_if (dt_cmp (os_eq hr.units) (de_callS (ok__law_take T) (hr.mono (by decide)) (by rfl) T.m__law_take T.F__law_take.kp T.b__law_take (pv 1) (da_cons de_int da_nil)) de_int (nomark _)) (dss_cons (ds_set (i := 5) sc_law.nd rfl (Or.inl rfl) (de_op os_add de_int (de_callS (ok__law_take T) (hr.mono (by decide)) (by rfl) T.m__law_take T.F__law_take.kp T.b__law_take (pv 1) (da_cons (de_var (pv 2)) da_nil))))
  (dss_one (ds_set (i := 4) sc_law.nd rfl (Or.inl rfl) (de_call (ok__law_ratio T) (hr.mono (by decide)) (by rfl) T.m__law_ratio T.F__law_ratio.kp T.b__law_ratio (da_cons (de_op os_add (de_op os_mul (de_ix (de_var (pv 3)) de_int (fun _ _ => rfl)) (de_var (pv 5))) (de_ix (de_var (pv 3)) de_int (fun _ _ => rfl))) (da_cons (de_op os_mul (de_ix (de_var (pv 3)) de_int (fun _ _ => rfl)) (de_var (pv 5))) da_nil)))))) dss_nil)
  (dss_cons (ds_if (dt_cmp (os_eq hr.units) (de_var (pv 3)) (de_var (pv 4)) (nomark _)) (dss_one (ds_set (i := 4) sc_law.nd rfl (Or.inl rfl) (de_tup (da_cons (de_op os_add (de_ix (de_var (pv 4)) de_int (fun _ _ => rfl)) (de_ix (de_var (pv 4)) de_int (fun _ _ => rfl))) (da_cons (de_ix (de_var (pv 4)) de_int (fun _ _ => rfl)) da_nil))))) dss_nil)
  (dss_cons (ds_asg (de_if (dt_cmp os_lt (de_op os_mul (de_ix (de_var (pv 3)) de_int (fun _ _ => rfl)) (de_ix (de_var (pv 4)) de_int (fun _ _ => rfl))) (de_op os_mul (de_ix (de_var (pv 4)) de_int (fun _ _ => rfl)) (de_ix (de_var (pv 3)) de_int (fun _ _ => rfl))) (nomark _)) (de_tup (da_cons (de_var (pv 3)) (da_cons (de_var (pv 4)) da_nil))) (de_tup (da_cons (de_var (pv 4)) (da_cons (de_var (pv 3)) da_nil)))) (dg_tup rfl (dgs_cons (dg_name (pg_name (i := 6) sc_law.nd rfl (Or.inl rfl))) (dgs_cons (dg_name (pg_name (i := 7) sc_law.nd rfl (Or.inl rfl))) dgs_nil))))
  (dss_cons (ds_set (i := 8) sc_law.nd rfl (Or.inl rfl) (de_call (ok_simplest_between T 40) (hr.mono (by decide)) (by rfl) T.m_simplest_between T.F_simplest_between.kp T.b_simplest_between (da_cons (de_var (pv 6)) (da_cons (de_var (pv 7)) da_nil))))
  (dss_one (ds_ret (de_and (de_call (ok__law_is_ratio T) (hr.mono (by decide)) (by rfl) T.m__law_is_ratio T.F__law_is_ratio.kp T.b__law_is_ratio (da_cons (de_var (pv 8)) da_nil)) (de_one (de_cmp (os_eq hr.units) (de_var (pv 8)) (de_call (ok__law_simplest T) (hr.mono (by decide)) (by rfl) T.m__law_simplest T.F__law_simplest.kp T.b__law_simplest (da_cons (de_var (pv 6)) (da_cons (de_var (pv 7)) da_nil))) (nomark _)))))))))))))))
end
section
variable {P : Program} {w : World} {K : PySem.W.Frag} {mg : Str → Option Value} {h : Heap}
theorem ent {x : Str} {st : Stmt} {f : Addr} {oc : Value} {od an : Option Addr} {osl : Array (Option Value)} {kV doc pm cdv ct : Value} (X : K.In h) (G : h.Ns mainGlobals mg) (a : PySem.W.nsIn K mainGlobals x = some (some (.ref f)))
    (l : K.lookup f = some ⟨oc, od, .func (PySem.W.fnOf x x (defArgs st) (defBody st) (defScope st) .none kV doc pm an cdv ct), osl⟩) (c : PySem.W.codeIn K cdv x = true) (k : PySem.W.keepIn K (.ref f) = true) :
    ∃ f fd, Fun K x x st f fd ∧ mg x = some (.ref f) := ⟨_, _, fun_mk l c k, PySem.W.mg_of X G a⟩
end
theorem law_mk {P : Program} {w : World} {K : PySem.W.Frag} {mg : Str → Option Value} {fa : Addr} (hfa : mg "law" = some (.ref fa)) (T : Top K mg) (hb : ∀ (s : Shared) (v : Value), BindsTo s T.fd_law ⟨[v], []⟩ [("script", v)]) :
    ∃ fd : FuncData, (∀ (s : Shared) (v : Value), BindsTo s fd ⟨[v], []⟩ [("script", v)]) ∧ ∀ base : Heap, K.In base → base.Ns mainGlobals mg → FnOk P w K mg base CX0 44 fa fd ["script"] (spLaw K) := by
  have e := hfa.symm.trans T.m_law
  cases e
  exact ⟨T.fd_law, hb, fun base _ _ => (ok_law T).imp fun _ _ _ _ => law_imp⟩
end Rl
open PySem PySem.W PyProof.Rows
set_option maxHeartbeats 0 in
theorem PySem.Challenge.cw_roothold_k02_simplest_fractions_holds : PySem.Challenge.rw_roothold_k02_simplest_fractions.Holds := by
  w_on; o_law; k_head; (case hw => w_witness2)
  k_fill
  refine L2.walk_of (l := PySem.Challenge.rw_roothold_k02_simplest_fractions) (n := 63) (k := 44) (x := "script") (CX := fun _ => L2.CX0) (sp := fun w => Dn.spLaw _) rfl (by decide) rfl ⟨rfl, by decide, by decide⟩ (fun w h Y => PySem.W.kIn_of Y) ?F (fun _ _ a ns hl _ hS => ⟨a, ns, rfl, hS, hl, fun _ => rfl⟩) (fun _ _ _ _ _ h => h)
  case F =>
    intro w mg fa h KX G hmg
    obtain ⟨f_common_divisor, fd_common_divisor, F_common_divisor, m_common_divisor⟩ : ∃ f fd, L2.Fun _ "common_divisor" "common_divisor" Rl.s_common_divisor f fd ∧ mg "common_divisor" = some (.ref f) := by
      refine' Rl.ent KX G ?a ?l ?c ?k
      (case a => k_is); (case l => k_is); (case c => k_is); (case k => k_is)
    obtain ⟨f_ratio, fd_ratio, F_ratio, m_ratio⟩ : ∃ f fd, L2.Fun _ "ratio" "ratio" Rl.s_ratio f fd ∧ mg "ratio" = some (.ref f) := by
      refine' Rl.ent KX G ?a ?l ?c ?k
      (case a => k_is); (case l => k_is); (case c => k_is); (case k => k_is)
    obtain ⟨f_plus, fd_plus, F_plus, m_plus⟩ : ∃ f fd, L2.Fun _ "plus" "plus" Rl.s_plus f fd ∧ mg "plus" = some (.ref f) := by
      refine' Rl.ent KX G ?a ?l ?c ?k
      (case a => k_is); (case l => k_is); (case c => k_is); (case k => k_is)
    obtain ⟨f_minus, fd_minus, F_minus, m_minus⟩ : ∃ f fd, L2.Fun _ "minus" "minus" Rl.s_minus f fd ∧ mg "minus" = some (.ref f) := by
      refine' Rl.ent KX G ?a ?l ?c ?k
      (case a => k_is); (case l => k_is); (case c => k_is); (case k => k_is)
    obtain ⟨f_over, fd_over, F_over, m_over⟩ : ∃ f fd, L2.Fun _ "over" "over" Rl.s_over f fd ∧ mg "over" = some (.ref f) := by
      refine' Rl.ent KX G ?a ?l ?c ?k
      (case a => k_is); (case l => k_is); (case c => k_is); (case k => k_is)
    obtain ⟨f_sign, fd_sign, F_sign, m_sign⟩ : ∃ f fd, L2.Fun _ "sign" "sign" Rl.s_sign f fd ∧ mg "sign" = some (.ref f) := by
      refine' Rl.ent KX G ?a ?l ?c ?k
      (case a => k_is); (case l => k_is); (case c => k_is); (case k => k_is)
    obtain ⟨f_compare, fd_compare, F_compare, m_compare⟩ : ∃ f fd, L2.Fun _ "compare" "compare" Rl.s_compare f fd ∧ mg "compare" = some (.ref f) := by
      refine' Rl.ent KX G ?a ?l ?c ?k
      (case a => k_is); (case l => k_is); (case c => k_is); (case k => k_is)
    obtain ⟨f_floor_of, fd_floor_of, F_floor_of, m_floor_of⟩ : ∃ f fd, L2.Fun _ "floor_of" "floor_of" Rl.s_floor_of f fd ∧ mg "floor_of" = some (.ref f) := by
      refine' Rl.ent KX G ?a ?l ?c ?k
      (case a => k_is); (case l => k_is); (case c => k_is); (case k => k_is)
    obtain ⟨f_ceiling_of, fd_ceiling_of, F_ceiling_of, m_ceiling_of⟩ : ∃ f fd, L2.Fun _ "ceiling_of" "ceiling_of" Rl.s_ceiling_of f fd ∧ mg "ceiling_of" = some (.ref f) := by
      refine' Rl.ent KX G ?a ?l ?c ?k
      (case a => k_is); (case l => k_is); (case c => k_is); (case k => k_is)
    obtain ⟨f_simplest_between, fd_simplest_between, F_simplest_between, m_simplest_between⟩ : ∃ f fd, L2.Fun _ "simplest_between" "simplest_between" Rl.s_simplest_between f fd ∧ mg "simplest_between" = some (.ref f) := by
      refine' Rl.ent KX G ?a ?l ?c ?k
      (case a => k_is); (case l => k_is); (case c => k_is); (case k => k_is)
    obtain ⟨f__law_cell, fd__law_cell, F__law_cell, m__law_cell⟩ : ∃ f fd, L2.Fun _ "_law_cell" "_law_cell" Rl.s__law_cell f fd ∧ mg "_law_cell" = some (.ref f) := by
      refine' Rl.ent KX G ?a ?l ?c ?k
      (case a => k_is); (case l => k_is); (case c => k_is); (case k => k_is)
    obtain ⟨f__law_take, fd__law_take, F__law_take, m__law_take⟩ : ∃ f fd, L2.Fun _ "_law_take" "_law_take" Rl.s__law_take f fd ∧ mg "_law_take" = some (.ref f) := by
      refine' Rl.ent KX G ?a ?l ?c ?k
      (case a => k_is); (case l => k_is); (case c => k_is); (case k => k_is)
    obtain ⟨f__law_big, fd__law_big, F__law_big, m__law_big⟩ : ∃ f fd, L2.Fun _ "_law_big" "_law_big" Rl.s__law_big f fd ∧ mg "_law_big" = some (.ref f) := by
      refine' Rl.ent KX G ?a ?l ?c ?k
      (case a => k_is); (case l => k_is); (case c => k_is); (case k => k_is)
    obtain ⟨f__law_divisor, fd__law_divisor, F__law_divisor, m__law_divisor⟩ : ∃ f fd, L2.Fun _ "_law_divisor" "_law_divisor" Rl.s__law_divisor f fd ∧ mg "_law_divisor" = some (.ref f) := by
      refine' Rl.ent KX G ?a ?l ?c ?k
      (case a => k_is); (case l => k_is); (case c => k_is); (case k => k_is)
    obtain ⟨f__law_ratio, fd__law_ratio, F__law_ratio, m__law_ratio⟩ : ∃ f fd, L2.Fun _ "_law_ratio" "_law_ratio" Rl.s__law_ratio f fd ∧ mg "_law_ratio" = some (.ref f) := by
      refine' Rl.ent KX G ?a ?l ?c ?k
      (case a => k_is); (case l => k_is); (case c => k_is); (case k => k_is)
    obtain ⟨f__law_is_ratio, fd__law_is_ratio, F__law_is_ratio, m__law_is_ratio⟩ : ∃ f fd, L2.Fun _ "_law_is_ratio" "_law_is_ratio" Rl.s__law_is_ratio f fd ∧ mg "_law_is_ratio" = some (.ref f) := by
      refine' Rl.ent KX G ?a ?l ?c ?k
      (case a => k_is); (case l => k_is); (case c => k_is); (case k => k_is)
    obtain ⟨f__law_simplest, fd__law_simplest, F__law_simplest, m__law_simplest⟩ : ∃ f fd, L2.Fun _ "_law_simplest" "_law_simplest" Rl.s__law_simplest f fd ∧ mg "_law_simplest" = some (.ref f) := by
      refine' Rl.ent KX G ?a ?l ?c ?k
      (case a => k_is); (case l => k_is); (case c => k_is); (case k => k_is)
    obtain ⟨f_law, fd_law, F_law, m_law⟩ : ∃ f fd, L2.Fun _ "law" "law" Rl.s_law f fd ∧ mg "law" = some (.ref f) := by
      refine' Rl.ent KX G ?a ?l ?c ?k
      (case a => k_is); (case l => k_is); (case c => k_is); (case k => k_is)
    have z_abs : mg "abs" = none := by
      refine' PySem.W.mg_none_of KX G ?z
      (case z => k_is)
    have z_bool : mg "bool" = none := by
      refine' PySem.W.mg_none_of KX G ?z
      (case z => k_is)
    have z_int : mg "int" = none := by
      refine' PySem.W.mg_none_of KX G ?z
      (case z => k_is)
    have z_isinstance : mg "isinstance" = none := by
      refine' PySem.W.mg_none_of KX G ?z
      (case z => k_is)
    have z_len : mg "len" = none := by
      refine' PySem.W.mg_none_of KX G ?z
      (case z => k_is)
    have z_range : mg "range" = none := by
      refine' PySem.W.mg_none_of KX G ?z
      (case z => k_is)
    have z_tuple : mg "tuple" = none := by
      refine' PySem.W.mg_none_of KX G ?z
      (case z => k_is)
    have b_common_divisor := F_common_divisor.binds (ps := ["one", "two"]) fun _ _ _ _ _ _ us hl => match us, hl with | [_, _], _ => rfl
    have b_ratio := F_ratio.binds (ps := ["numerator", "denominator"]) fun _ _ _ _ _ _ us hl => match us, hl with | [_, _], _ => rfl
    have b_plus := F_plus.binds (ps := ["one", "two"]) fun _ _ _ _ _ _ us hl => match us, hl with | [_, _], _ => rfl
    have b_minus := F_minus.binds (ps := ["one", "two"]) fun _ _ _ _ _ _ us hl => match us, hl with | [_, _], _ => rfl
    have b_over := F_over.binds (ps := ["one", "two"]) fun _ _ _ _ _ _ us hl => match us, hl with | [_, _], _ => rfl
    have b_sign := F_sign.binds (ps := ["number"]) fun _ _ _ _ _ _ us hl => match us, hl with | [_], _ => rfl
    have b_compare := F_compare.binds (ps := ["one", "two"]) fun _ _ _ _ _ _ us hl => match us, hl with | [_, _], _ => rfl
    have b_floor_of := F_floor_of.binds (ps := ["one"]) fun _ _ _ _ _ _ us hl => match us, hl with | [_], _ => rfl
    have b_ceiling_of := F_ceiling_of.binds (ps := ["one"]) fun _ _ _ _ _ _ us hl => match us, hl with | [_], _ => rfl
    have b_simplest_between := F_simplest_between.binds (ps := ["low", "high"]) fun _ _ _ _ _ _ us hl => match us, hl with | [_, _], _ => rfl
    have b__law_cell := F__law_cell.binds (ps := ["script", "k"]) fun _ _ _ _ _ _ us hl => match us, hl with | [_, _], _ => rfl
    have b__law_take := F__law_take.binds (ps := ["state", "m"]) fun _ _ _ _ _ _ us hl => match us, hl with | [_, _], _ => rfl
    have b__law_big := F__law_big.binds (ps := ["script", "at", "count"]) fun _ _ _ _ _ _ us hl => match us, hl with | [_, _, _], _ => rfl
    have b__law_divisor := F__law_divisor.binds (ps := ["one", "two"]) fun _ _ _ _ _ _ us hl => match us, hl with | [_, _], _ => rfl
    have b__law_ratio := F__law_ratio.binds (ps := ["p", "q"]) fun _ _ _ _ _ _ us hl => match us, hl with | [_, _], _ => rfl
    have b__law_is_ratio := F__law_is_ratio.binds (ps := ["pair"]) fun _ _ _ _ _ _ us hl => match us, hl with | [_], _ => rfl
    have b__law_simplest := F__law_simplest.binds (ps := ["low", "high"]) fun _ _ _ _ _ _ us hl => match us, hl with | [_, _], _ => rfl
    have b_law := F_law.binds (ps := ["script"]) fun _ _ _ _ _ _ us hl => match us, hl with | [_], _ => rfl
    exact Rl.law_mk hmg ⟨f_common_divisor, fd_common_divisor, F_common_divisor, b_common_divisor, m_common_divisor, f_ratio, fd_ratio, F_ratio, b_ratio, m_ratio, f_plus, fd_plus, F_plus, b_plus, m_plus, f_minus, fd_minus, F_minus, b_minus, m_minus, f_over, fd_over, F_over, b_over, m_over, f_sign, fd_sign, F_sign, b_sign, m_sign, f_compare, fd_compare, F_compare, b_compare, m_compare, f_floor_of, fd_floor_of, F_floor_of, b_floor_of, m_floor_of, f_ceiling_of, fd_ceiling_of, F_ceiling_of, b_ceiling_of, m_ceiling_of, f_simplest_between, fd_simplest_between, F_simplest_between, b_simplest_between, m_simplest_between, f__law_cell, fd__law_cell, F__law_cell, b__law_cell, m__law_cell, f__law_take, fd__law_take, F__law_take, b__law_take, m__law_take, f__law_big, fd__law_big, F__law_big, b__law_big, m__law_big, f__law_divisor, fd__law_divisor, F__law_divisor, b__law_divisor, m__law_divisor, f__law_ratio, fd__law_ratio, F__law_ratio, b__law_ratio, m__law_ratio, f__law_is_ratio, fd__law_is_ratio, F__law_is_ratio, b__law_is_ratio, m__law_is_ratio, f__law_simplest, fd__law_simplest, F__law_simplest, b__law_simplest, m__law_simplest, f_law, fd_law, F_law, b_law, m_law, z_abs, z_bool, z_int, z_isinstance, z_len, z_range, z_tuple⟩ (fun s v => by obtain ⟨_, _, _, _, _, _, _, _, _, e, _⟩ := F_law.ex; subst e; exact .of_eq rfl)

