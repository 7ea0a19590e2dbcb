import PyProof.Rows.All
import HandS.ForMost
import HandS.Wide
import HandS.Flow
import HandS.IsInst
import HandS.Style
import HandS.ExcOwn
import HandS.TryOnly
import HandS.WordsExc
import HandS.RevRange
import HandS.Conv
import KE.BitLaws
import KE.DataEq
import Wide.All
import OpenK.AllK
import Wide.FinOn
import PySem.Challenge.RW_roothold_k01_values_and_sums
set_option Elab.async false
set_option linter.all false
set_option maxRecDepth 100000
set_option maxHeartbeats 4000000
/-! Dn, part 1: plain data, its representation in the tracked heap, the state relation. -/
namespace Dn
open PySem PySem.Spec PyProof.Rows L2

/-- plain data -/
inductive D where
  | non | bl (b : Bool) | int (i : Int) | str (x : Str)
  | lst (xs : List D) | tup (xs : List D) | frz (xs : List D)
  | obj (c : Str) (ks : List Str) (ds : List D)

mutual
inductive Rep (K : PySem.W.Frag) (mg : Str → Option Value) (F : Hp) : V → D → Prop
  | non : Rep K mg F .non .non
  | bl (b : Bool) : Rep K mg F (.bl b) (.bl b)
  | int (i : Int) : Rep K mg F (.int i) (.int i)
  | str (x : Str) : Rep K mg F (.str x) (.str x)
  | lst {a : Addr} {xs : List V} {ds : List D} : F a = some (.lst xs) → Reps K mg F xs ds → Rep K mg F (.ref a) (.lst ds)
  | tup {a : Addr} {xs : List V} {ds : List D} : SqT K F a xs → Reps K mg F xs ds → Rep K mg F (.ref a) (.tup ds)
  | frz {a : Addr} {xs : List V} {ds : List D} : SqL K F a xs → Reps K mg F xs ds → Rep K mg F (.ref a) (.frz ds)
  | obj {a C dx : Addr} {c : Str} {ks : List Str} {vs : List V} {ds : List D} : mg c = some (.ref C) → F a = some (.ins C dx (ks.zip vs)) → ks.length = vs.length → Reps K mg F vs ds → Rep K mg F (.ref a) (.obj c ks ds)
inductive Reps (K : PySem.W.Frag) (mg : Str → Option Value) (F : Hp) : List V → List D → Prop
  | nil : Reps K mg F [] []
  | cons {v : V} {vs : List V} {d : D} {ds : List D} : Rep K mg F v d → Reps K mg F vs ds → Reps K mg F (v :: vs) (d :: ds)
end

theorem same_t {K : PySem.W.Frag} {H H' : Hp} {a : Addr} {xs : List V} (e : Same H H') (h : SqT K H a xs) : SqT K H' a xs := by
  rcases h with (h | ⟨o, h⟩) | h
  · exact .inl (.inl (e _ _ h))
  · exact .inl (.inr ⟨o, e _ _ h⟩)
  · exact .inr h
theorem same_upd {H : Hp} {p : Addr} {o : HO} (h : H p = none) : Same H (upd H p o) := fun b x e => by
  rw [upd_ne (ne_of_none e h)]
  exact e

section
variable {K : PySem.W.Frag} {mg : Str → Option Value} {F F' H H' : Hp}
mutual
theorem Rep.mono (e : Same F F') : ∀ (d : D) (v : V), Rep K mg F v d → Rep K mg F' v d
  | .non, _, h => by cases h; exact .non
  | .bl _, _, h => by cases h; exact .bl _
  | .int _, _, h => by cases h; exact .int _
  | .str _, _, h => by cases h; exact .str _
  | .lst ds, _, h => by
    cases h with
    | lst h1 h2 => exact .lst (e _ _ h1) (Reps.mono e ds _ h2)
  | .tup ds, _, h => by
    cases h with
    | tup h1 h2 => exact .tup (same_t e h1) (Reps.mono e ds _ h2)
  | .frz ds, _, h => by
    cases h with
    | frz h1 h2 => exact .frz (e.seq h1) (Reps.mono e ds _ h2)
  | .obj c ks ds, _, h => by
    cases h with
    | obj h1 h2 h3 h4 => exact .obj h1 (e _ _ h2) h3 (Reps.mono e ds _ h4)
theorem Reps.mono (e : Same F F') : ∀ (ds : List D) (vs : List V), Reps K mg F vs ds → Reps K mg F' vs ds
  | [], _, h => by cases h; exact .nil
  | d :: ds, _, h => by
    cases h with
    | cons h1 h2 => exact .cons (Rep.mono e d _ h1) (Reps.mono e ds _ h2)
end
theorem Rep.up {v : V} {d : D} (h : Rep K mg F v d) (e : Same F F') : Rep K mg F' v d := Rep.mono e d v h
theorem Reps.up {vs : List V} {ds : List D} (h : Reps K mg F vs ds) (e : Same F F') : Reps K mg F' vs ds := Reps.mono e ds vs h
theorem Reps.len : ∀ {vs : List V} {ds : List D}, Reps K mg F vs ds → vs.length = ds.length
  | _, _, .nil => rfl
  | _, _, .cons _ h => by rw [List.length_cons, List.length_cons, h.len]
theorem Reps.get : ∀ {vs : List V} {ds : List D} {i : Nat} {d : D}, Reps K mg F vs ds → ds[i]? = some d → ∃ v, vs[i]? = some v ∧ Rep K mg F v d
  | _, _, _, _, .nil, e => by simp at e
  | _, _, 0, _, .cons h _, e => by simp at e; subst e; exact ⟨_, rfl, h⟩
  | _, _, i + 1, d, .cons _ h, e => by
    obtain ⟨v, h1, h2⟩ := Reps.get (i := i) (d := d) h (by simpa using e)
    exact ⟨v, by simpa using h1, h2⟩
theorem Reps.getV : ∀ {vs : List V} {ds : List D} {i : Nat} {v : V}, Reps K mg F vs ds → vs[i]? = some v → ∃ d, ds[i]? = some d ∧ Rep K mg F v d
  | _, _, _, _, .nil, e => by simp at e
  | _, _, 0, _, .cons h _, e => by simp at e; subst e; exact ⟨_, rfl, h⟩
  | _, _, i + 1, v, .cons _ h, e => by
    obtain ⟨d, h1, h2⟩ := Reps.getV (i := i) (v := v) h (by simpa using e)
    exact ⟨d, by simpa using h1, h2⟩
theorem Reps.app : ∀ {vs ws : List V} {ds es : List D}, Reps K mg F vs ds → Reps K mg F ws es → Reps K mg F (vs ++ ws) (ds ++ es)
  | _, _, _, _, .nil, h => h
  | _, _, _, _, .cons h t, h' => .cons h (t.app h')
theorem Reps.set {v : V} {d : D} (h : Rep K mg F v d) : ∀ {vs : List V} {ds : List D} (i : Nat), Reps K mg F vs ds → Reps K mg F (vs.set i v) (ds.set i d)
  | _, _, _, .nil => .nil
  | _, _, 0, .cons _ t => .cons h t
  | _, _, i + 1, .cons q t => .cons q (t.set h i)
theorem Reps.take : ∀ {vs : List V} {ds : List D} (n : Nat), Reps K mg F vs ds → Reps K mg F (vs.take n) (ds.take n)
  | _, _, 0, _ => .nil
  | _, _, _ + 1, .nil => .nil
  | _, _, n + 1, .cons q t => .cons q (t.take n)
theorem Reps.drop : ∀ {vs : List V} {ds : List D} (n : Nat), Reps K mg F vs ds → Reps K mg F (vs.drop n) (ds.drop n)
  | _, _, 0, h => h
  | _, _, _ + 1, .nil => .nil
  | _, _, n + 1, .cons _ t => t.drop n
theorem Reps.rev : ∀ {vs : List V} {ds : List D}, Reps K mg F vs ds → Reps K mg F vs.reverse ds.reverse
  | _, _, .nil => .nil
  | _, _, .cons q t => by rw [List.reverse_cons, List.reverse_cons]; exact (Reps.rev t).app (.cons q .nil)
theorem Reps.ints : ∀ {vs : List V} {ns : List Int}, Reps K mg F vs (ns.map D.int) → vs = ns.map V.int
  | _, [], h => by cases h; rfl
  | _, n :: ns, h => by
    cases h with
    | cons h1 h2 => cases h1; rw [Reps.ints h2]; rfl
theorem reps_ints : ∀ (ns : List Int), Reps K mg F (ns.map V.int) (ns.map D.int)
  | [] => .nil
  | n :: ns => .cons (.int n) (reps_ints ns)
end

/-! ### as the library's data -/
mutual
def D.py : D → PyData
  | .non => .none
  | .bl b => .bool b
  | .int i => .int i
  | .str x => .str x
  | .lst ds => .list (pys ds)
  | .tup ds => .tuple (pys ds)
  | .frz ds => .list (pys ds)
  | .obj _ _ _ => .none
def pys : List D → List PyData
  | [] => []
  | d :: ds => d.py :: pys ds
end
def D.flat : D → Bool
  | .non | .bl _ | .int _ => true
  | .str x => PyData.strOk x
  | _ => false
/-- no objects within, at most n deep -/
def D.fin : Nat → D → Prop
  | 0, d => d.flat = true
  | n + 1, d => d.flat = true ∨ ∃ ds, (d = .lst ds ∨ d = .tup ds ∨ d = .frz ds) ∧ ∀ x ∈ ds, D.fin n x
theorem fin_flat {d : D} (h : d.flat = true) : ∀ n, d.fin n
  | 0 => h
  | _ + 1 => .inl h
theorem fin_int (i : Int) (n : Nat) : (D.int i).fin n := fin_flat rfl n
theorem fin_bl (b : Bool) (n : Nat) : (D.bl b).fin n := fin_flat rfl n
theorem fin_str {x : Str} (h : PyData.strOk x = true) (n : Nat) : (D.str x).fin n := fin_flat (d := .str x) h n
theorem fin_non (n : Nat) : D.non.fin n := fin_flat rfl n
theorem fin_lst {ds : List D} {n : Nat} (h : ∀ x ∈ ds, x.fin n) : (D.lst ds).fin (n + 1) := .inr ⟨ds, .inl rfl, h⟩
theorem fin_tup {ds : List D} {n : Nat} (h : ∀ x ∈ ds, x.fin n) : (D.tup ds).fin (n + 1) := .inr ⟨ds, .inr (.inl rfl), h⟩
theorem fin_frz {ds : List D} {n : Nat} (h : ∀ x ∈ ds, x.fin n) : (D.frz ds).fin (n + 1) := .inr ⟨ds, .inr (.inr rfl), h⟩
theorem flat_py {d : D} (h : d.flat = true) : d.py.canLay0 = true ∧ d.py.depth = 0 := by
  cases d <;> first | exact ⟨rfl, rfl⟩ | exact ⟨h, rfl⟩ | cases h
theorem pys_lay : ∀ {ds : List D} {n : Nat}, (∀ x ∈ ds, x.py.canLay0 = true ∧ x.py.depth ≤ n) → PyData.canLayAll0 (pys ds) = true ∧ PyData.depthAll (pys ds) ≤ n
  | [], _, _ => ⟨rfl, Nat.zero_le _⟩
  | d :: ds, n, h => by
    obtain ⟨h1, h2⟩ := h d (List.mem_cons_self)
    obtain ⟨h3, h4⟩ := pys_lay (ds := ds) (n := n) fun x hx => h x (List.mem_cons_of_mem _ hx)
    refine ⟨?_, ?_⟩
    · show (d.py.canLay0 && PyData.canLayAll0 (pys ds)) = true
      rw [h1, h3]; rfl
    · show max d.py.depth (PyData.depthAll (pys ds)) ≤ n
      omega
theorem fin_py : ∀ {n : Nat} {d : D}, d.fin n → d.py.canLay0 = true ∧ d.py.depth ≤ n
  | 0, d, h => by obtain ⟨a, b⟩ := flat_py (d := d) h; exact ⟨a, by omega⟩
  | n + 1, d, h => by
    rcases h with h | ⟨ds, e, h⟩
    · obtain ⟨a, b⟩ := flat_py h; exact ⟨a, by omega⟩
    · obtain ⟨a, b⟩ := pys_lay (ds := ds) (n := n) fun x hx => fin_py (h x hx)
      rcases e with rfl | rfl | rfl
      all_goals exact ⟨a, Nat.succ_le_succ b⟩
theorem fin_shaped {n : Nat} {d : D} (h : d.fin n) (hn : n ≤ 64) : SeqAt.shaped d.py = true := by
  obtain ⟨a, b⟩ := fin_py h
  unfold SeqAt.shaped
  rw [a, decide_eq_true (show d.py.depth ≤ 64 by omega)]
  rfl
def eqD (d e : D) : Bool := PyData.eqv d.py e.py
theorem eqD_refl {n : Nat} {d : D} (h : d.fin n) : eqD d d = true := SeqAt.eqv_refl d.py (fin_py h).1
section
variable {K : PySem.W.Frag} {mg : Str → Option Value} {F : Hp}
theorem fin_dps : ∀ {n : Nat}, (∀ {d : D} {v : V}, d.fin n → Rep K mg F v d → Dp K F v d.py) → ∀ {ds : List D} {vs : List V}, (∀ x ∈ ds, x.fin n) → Reps K mg F vs ds → DpAll K F vs (pys ds)
  | _, _, [], _, _, h => by cases h; exact .nil
  | n, f, d :: ds, _, hx, h => by
    cases h with
    | cons h1 h2 => exact .cons (f (hx d List.mem_cons_self) h1) (fin_dps f (fun x q => hx x (List.mem_cons_of_mem _ q)) h2)
theorem flat_dp {d : D} {v : V} (h : d.flat = true) (r : Rep K mg F v d) : Dp K F v d.py := by
  cases r with
  | non => exact .non
  | bl b => exact .bl b
  | int i => exact .int i
  | str x => exact .str x
  | lst _ _ => cases h
  | tup _ _ => cases h
  | frz _ _ => cases h
  | obj _ _ _ _ => cases h
theorem fin_dp : ∀ {n : Nat} {d : D} {v : V}, d.fin n → Rep K mg F v d → Dp K F v d.py
  | 0, d, v, h, r => flat_dp h r
  | n + 1, d, v, h, r => by
    rcases h with h | ⟨ds, e, h⟩
    · exact flat_dp h r
    · have g : ∀ {vs : List V}, Reps K mg F vs ds → DpAll K F vs (pys ds) := fun {vs} q => fin_dps (n := n) (fun hd hr => fin_dp hd hr) h q
      rcases e with rfl | rfl | rfl
      · cases r with
        | lst h1 h2 => exact .lst (SqL.of h1) (g h2)
      · cases r with
        | tup h1 h2 => exact .tup h1 (g h2)
      · cases r with
        | frz h1 h2 => exact .lst h1 (g h2)
end
end Dn

set_option Elab.async false
set_option linter.all false
set_option maxRecDepth 100000
set_option maxHeartbeats 4000000
/-! Dn, part 2: the state relation. -/
namespace Dn
open PySem PySem.Spec PyProof.Rows L2

/-- what stays through a def's run: the data known at its entry, the heap at its entry, the list handed in to be changed, lists under way -/
structure Cn where
  F0 : Hp
  B : Hp
  io : List Addr
  T : List (Addr × HO)

/-- a slot: nothing known, data that is not changed, an own list, a list handed in to be changed -/
inductive Sl where
  | no | sh (d : D) | ow (xs : List D) | io (xs : List D)
abbrev En := List Sl
/-- an expression's value: data, the own list in a slot, a new list -/
inductive Rv where
  | sh (d : D) | bo (i : Nat) | fr (xs : List D)

section
variable (K : PySem.W.Frag) (mg : Str → Option Value) (C : Cn) (F H : Hp)
def SlR (o : Option (Option V)) (s : Sl) (fp : List Addr) : Prop := match s with
  | .no => fp = []
  | .sh d => fp = [] ∧ ∃ v, o = some (some v) ∧ Rep K mg F v d
  | .ow xs => ∃ p vs, fp = [p] ∧ o = some (some (.ref p)) ∧ C.B p = none ∧ H p = some (.lst vs) ∧ Reps K mg F vs xs
  | .io xs => ∃ p vs, fp = [p] ∧ o = some (some (.ref p)) ∧ p ∈ C.io ∧ H p = some (.lst vs) ∧ Reps K mg F vs xs
structure SR (σ : L2.St) (env : En) (fp : Nat → List Addr) : Prop where
  f0 : Same C.F0 F
  fh : Same F H
  bh : ∀ a o, a ∉ C.io → C.B a = some o → H a = some o
  fn : ∀ a, F a ≠ none → C.F0 a ≠ none ∨ C.B a = none
  ln : σ.length = env.length
  sl : ∀ i s, env[i]? = some s → SlR K mg C F H (σ[i]?) s (fp i)
  sep : ∀ i j p, p ∈ fp i → p ∈ fp j → i = j
  out : ∀ i p, p ∈ fp i → F p = none ∧ H p ≠ none ∧ ∀ t ∈ C.T, t.1 ≠ p
  iof : ∀ p ∈ C.io, C.F0 p = none ∧ C.B p ≠ none ∧ H p ≠ none
  tm : ∀ t ∈ C.T, F t.1 = none ∧ C.B t.1 = none ∧ H t.1 = some t.2
def VR (σ : L2.St) (fp : Nat → List Addr) (v : V) : Rv → Prop
  | .sh d => Rep K mg F v d
  | .bo i => σ[i]? = some (some v)
  | .fr ds => ∃ p vs, v = .ref p ∧ F p = none ∧ C.B p = none ∧ H p = some (.lst vs) ∧ Reps K mg F vs ds ∧ (∀ i, p ∉ fp i) ∧ ∀ t ∈ C.T, t.1 ≠ p
end

def fpSet (fp : Nat → List Addr) (i : Nat) (l : List Addr) : Nat → List Addr := fun j => if j = i then l else fp j
theorem fpSet_same {fp : Nat → List Addr} {i : Nat} {l : List Addr} : fpSet fp i l i = l := by unfold fpSet; rw [if_pos rfl]
theorem fpSet_ne {fp : Nat → List Addr} {i j : Nat} {l : List Addr} (h : j ≠ i) : fpSet fp i l j = fp j := by unfold fpSet; rw [if_neg h]
theorem none_of_ne {H : Hp} {p : Addr} {o : HO} (h : H p = some o) : H p ≠ none := by rw [h]; exact fun e => by cases e
theorem some_of_ne {H : Hp} {p : Addr} (h : H p ≠ none) : ∃ o, H p = some o := by
  cases e : H p with
  | none => exact absurd e h
  | some o => exact ⟨o, rfl⟩
theorem ne_none_same {H H' : Hp} {p : Addr} (e : Same H H') (h : H p ≠ none) : H' p ≠ none := by
  obtain ⟨o, q⟩ := some_of_ne h
  exact none_of_ne (e p o q)

section
variable {K : PySem.W.Frag} {mg : Str → Option Value} {C : Cn} {F F' H H' : Hp} {σ : L2.St} {env : En} {fp : Nat → List Addr}

theorem SlR.mono {o : Option (Option V)} {s : Sl} {l : List Addr} (h : SlR K mg C F H o s l) (e : Same F F') (k : ∀ p ∈ l, H' p = H p) : SlR K mg C F' H' o s l := by
  cases s with
  | no => exact h
  | sh d => obtain ⟨a, v, b, c⟩ := h; exact ⟨a, v, b, c.up e⟩
  | ow xs => obtain ⟨p, vs, a, b, c, d, r⟩ := h; subst a; exact ⟨p, vs, rfl, b, c, (k p (by simp)).trans d, r.up e⟩
  | io xs => obtain ⟨p, vs, a, b, c, d, r⟩ := h; subst a; exact ⟨p, vs, rfl, b, c, (k p (by simp)).trans d, r.up e⟩
/-- new in H: new against all -/
theorem SR.fresh (S : SR K mg C F H σ env fp) {p : Addr} (h : H p = none) : F p = none ∧ C.B p = none ∧ p ∉ C.io ∧ (∀ i, p ∉ fp i) ∧ ∀ t ∈ C.T, t.1 ≠ p := by
  have hio : p ∉ C.io := fun q => (S.iof p q).2.2 h
  refine ⟨?_, ?_, hio, fun i q => (S.out i p q).2.1 h, fun t ht e => ?_⟩
  · cases e : F p with
    | none => rfl
    | some o => rw [S.fh p o e] at h; cases h
  · cases e : C.B p with
    | none => rfl
    | some o => rw [S.bh p o hio e] at h; cases h
  · have := (S.tm t ht).2.2
    rw [e, h] at this; cases this
/-- the heap grows (a call, a new object) -/
theorem SR.grow (S : SR K mg C F H σ env fp) (hh : Same H H') (ff : Same F F') (fh : Same F' H') (fn : ∀ a, F' a ≠ none → F a ≠ none ∨ H a = none) : SR K mg C F' H' σ env fp where
  f0 := S.f0.trans ff
  fh := fh
  bh := fun a o h1 h2 => hh a o (S.bh a o h1 h2)
  fn := fun a h => (fn a h).elim (fun q => S.fn a q) fun q => .inr (S.fresh q).2.1
  ln := S.ln
  sl := fun i s e => (S.sl i s e).mono ff fun p hp => by
    obtain ⟨o, q⟩ := some_of_ne (S.out i p hp).2.1
    rw [q]; exact hh p o q
  sep := S.sep
  out := fun i p hp => by
    obtain ⟨a, b, c⟩ := S.out i p hp
    refine ⟨?_, ne_none_same hh b, c⟩
    cases e : F' p with
    | none => rfl
    | some o => exact ((fn p (none_of_ne e)).elim (fun q => q a) fun q => b q).elim
  iof := fun p hp => ⟨(S.iof p hp).1, (S.iof p hp).2.1, ne_none_same hh (S.iof p hp).2.2⟩
  tm := fun t ht => by
    obtain ⟨a, b, c⟩ := S.tm t ht
    refine ⟨?_, b, hh _ _ c⟩
    cases e : F' t.1 with
    | none => rfl
    | some o =>
      rcases fn t.1 (none_of_ne e) with q | q
      · exact (q a).elim
      · rw [q] at c; cases c
theorem same_both {p : Addr} {o : HO} (e : Same F H) : Same (upd F p o) (upd H p o) := fun a u h => by
  by_cases hp : a = p
  · subst hp; rw [upd_same] at h ⊢; exact h
  · rw [upd_ne hp] at h ⊢; exact e a u h
/-- a new object, not changed any more -/
theorem SR.new (S : SR K mg C F H σ env fp) {p : Addr} (o : HO) (h : H p = none) : SR K mg C (upd F p o) (upd H p o) σ env fp :=
  S.grow (same_upd h) (same_upd (S.fresh h).1) (same_both S.fh) fun a q => by
    by_cases hp : a = p
    · subst hp; exact .inr h
    · rw [upd_ne hp] at q; exact .inl q
/-- a new object that nothing speaks of -/
theorem SR.more (S : SR K mg C F H σ env fp) {p : Addr} (o : HO) (h : H p = none) : SR K mg C F (upd H p o) σ env fp :=
  S.grow (same_upd h) (Same.refl F) (S.fh.trans (same_upd h)) fun a q => .inl q
/-- a new list as an expression's value -/
theorem SR.newL (S : SR K mg C F H σ env fp) {p : Addr} {vs : List V} {ds : List D} (h : H p = none) (r : Reps K mg F vs ds) : SR K mg C F (upd H p (.lst vs)) σ env fp ∧ VR K mg C F (upd H p (.lst vs)) σ fp (.ref p) (.fr ds) := by
  obtain ⟨a, b, c, d, e⟩ := S.fresh h
  exact ⟨S.more _ h, p, vs, rfl, a, b, upd_same, r, d, e⟩
/-- a list that nothing will change: from now on data -/
theorem SR.frz (S : SR K mg C F H σ env fp) {v : V} {ds : List D} (r : VR K mg C F H σ fp v (.fr ds)) : ∃ F', SR K mg C F' H σ env fp ∧ Same F F' ∧ Rep K mg F' v (.lst ds) := by
  obtain ⟨p, vs, rfl, a, b, c, q, d, e⟩ := r
  have sf : Same F (upd F p (.lst vs)) := same_upd a
  refine ⟨upd F p (.lst vs), ⟨S.f0.trans sf, fun x u hx => ?_, S.bh, fun x hx => ?_, S.ln, fun i s es => (S.sl i s es).mono sf fun _ _ => rfl, S.sep, fun i x hx => ?_, S.iof, fun t ht => ?_⟩, sf, .lst upd_same (q.up sf)⟩
  · by_cases hp : x = p
    · subst hp; rw [upd_same] at hx; rw [c]; exact hx
    · rw [upd_ne hp] at hx; exact S.fh x u hx
  · by_cases hp : x = p
    · subst hp; exact .inr b
    · rw [upd_ne hp] at hx; exact S.fn x hx
  · obtain ⟨o1, o2, o3⟩ := S.out i x hx
    have hp : x ≠ p := fun z => d i (z ▸ hx)
    exact ⟨by rw [upd_ne hp]; exact o1, o2, o3⟩
  · obtain ⟨o1, o2, o3⟩ := S.tm t ht
    exact ⟨by rw [upd_ne (e t ht)]; exact o1, o2, o3⟩
/-- an own slot's list becomes data -/
theorem SR.frzS (S : SR K mg C F H σ env fp) {i : Nat} {xs : List D} (h : env[i]? = some (.ow xs)) : ∃ F' v, σ[i]? = some (some v) ∧ SR K mg C F' H σ (env.set i (.sh (.lst xs))) (fpSet fp i []) ∧ Same F F' ∧ Rep K mg F' v (.lst xs) := by
  obtain ⟨p, vs, a, b, c, d, r⟩ := S.sl i _ h
  have hpi : p ∈ fp i := by rw [a]; simp
  obtain ⟨o1, o2, o3⟩ := S.out i p hpi
  have sf : Same F (upd F p (.lst vs)) := same_upd o1
  have hi : i < env.length := (List.getElem?_eq_some_iff.mp h).1
  refine ⟨upd F p (.lst vs), .ref p, b, ⟨S.f0.trans sf, fun x u hx => ?_, S.bh, fun x hx => ?_, by rw [List.length_set]; exact S.ln, fun j s es => ?_, fun j k x hj hk => ?_, fun j x hx => ?_, S.iof, fun t ht => ?_⟩, sf, .lst upd_same (r.up sf)⟩
  · by_cases hp : x = p
    · subst hp; rw [upd_same] at hx; rw [d]; exact hx
    · rw [upd_ne hp] at hx; exact S.fh x u hx
  · by_cases hp : x = p
    · subst hp; exact .inr c
    · rw [upd_ne hp] at hx; exact S.fn x hx
  · by_cases hj : j = i
    · subst hj
      rw [List.getElem?_set_self hi] at es
      cases es
      rw [fpSet_same]
      exact ⟨rfl, _, b, .lst upd_same (r.up sf)⟩
    · rw [List.getElem?_set_ne (Ne.symm hj)] at es
      rw [fpSet_ne hj]
      exact (S.sl j s es).mono sf fun _ _ => rfl
  · by_cases e1 : j = i
    · subst e1; rw [fpSet_same] at hj; cases hj
    · by_cases e2 : k = i
      · subst e2; rw [fpSet_same] at hk; cases hk
      · rw [fpSet_ne e1] at hj; rw [fpSet_ne e2] at hk; exact S.sep j k x hj hk
  · by_cases e1 : j = i
    · subst e1; rw [fpSet_same] at hx; cases hx
    · rw [fpSet_ne e1] at hx
      obtain ⟨q1, q2, q3⟩ := S.out j x hx
      have hp : x ≠ p := fun z => e1 (S.sep j i p (z ▸ hx) hpi)
      exact ⟨by rw [upd_ne hp]; exact q1, q2, q3⟩
  · obtain ⟨q1, q2, q3⟩ := S.tm t ht
    exact ⟨by rw [upd_ne (o3 t ht)]; exact q1, q2, q3⟩
/-- a slot gets data -/
theorem SR.setS (S : SR K mg C F H σ env fp) {i : Nat} {v : V} {d : D} (r : Rep K mg F v d) : SR K mg C F H (σ.set i (some v)) (env.set i (.sh d)) (fpSet fp i []) where
  f0 := S.f0
  fh := S.fh
  bh := S.bh
  fn := S.fn
  ln := by rw [List.length_set, List.length_set]; exact S.ln
  sl := fun j s es => by
    by_cases hj : j = i
    · subst hj
      have hi : j < env.length := by
        have := (List.getElem?_eq_some_iff.mp es).1
        rw [List.length_set] at this; exact this
      rw [List.getElem?_set_self hi] at es
      cases es
      rw [fpSet_same, List.getElem?_set_self (by rw [S.ln]; exact hi)]
      exact ⟨rfl, v, rfl, r⟩
    · rw [List.getElem?_set_ne (Ne.symm hj)] at es
      rw [fpSet_ne hj, List.getElem?_set_ne (Ne.symm hj)]
      exact S.sl j s es
  sep := fun j k x hj hk => by
    by_cases e1 : j = i
    · subst e1; rw [fpSet_same] at hj; cases hj
    · by_cases e2 : k = i
      · subst e2; rw [fpSet_same] at hk; cases hk
      · rw [fpSet_ne e1] at hj; rw [fpSet_ne e2] at hk; exact S.sep j k x hj hk
  out := fun j x hx => by
    by_cases e1 : j = i
    · subst e1; rw [fpSet_same] at hx; cases hx
    · rw [fpSet_ne e1] at hx; exact S.out j x hx
  iof := S.iof
  tm := S.tm
/-- a slot gets a new list as its own -/
theorem SR.setO (S : SR K mg C F H σ env fp) {i : Nat} {v : V} {ds : List D} (r : VR K mg C F H σ fp v (.fr ds)) : ∃ fp', SR K mg C F H (σ.set i (some v)) (env.set i (.ow ds)) fp' := by
  obtain ⟨p, vs, rfl, a, b, c, q, d, e⟩ := r
  refine ⟨fpSet fp i [p], S.f0, S.fh, S.bh, S.fn, by rw [List.length_set, List.length_set]; exact S.ln, fun j s es => ?_, fun j k x hj hk => ?_, fun j x hx => ?_, S.iof, S.tm⟩
  · by_cases hj : j = i
    · subst hj
      have hi : j < env.length := by
        have := (List.getElem?_eq_some_iff.mp es).1
        rw [List.length_set] at this; exact this
      rw [List.getElem?_set_self hi] at es
      cases es
      rw [fpSet_same, List.getElem?_set_self (by rw [S.ln]; exact hi)]
      exact ⟨p, vs, rfl, rfl, b, c, q⟩
    · rw [List.getElem?_set_ne (Ne.symm hj)] at es
      rw [fpSet_ne hj, List.getElem?_set_ne (Ne.symm hj)]
      exact S.sl j s es
  · by_cases e1 : j = i
    · subst e1
      by_cases e2 : k = j
      · exact e2.symm
      · rw [fpSet_same] at hj; rw [fpSet_ne e2] at hk
        have : x = p := by simpa using hj
        subst this
        exact absurd hk (d k)
    · by_cases e2 : k = i
      · subst e2
        rw [fpSet_same] at hk; rw [fpSet_ne e1] at hj
        have : x = p := by simpa using hk
        subst this
        exact absurd hj (d j)
      · rw [fpSet_ne e1] at hj; rw [fpSet_ne e2] at hk; exact S.sep j k x hj hk
  · by_cases e1 : j = i
    · subst e1
      rw [fpSet_same] at hx
      have : x = p := by simpa using hx
      subst this
      exact ⟨a, none_of_ne c, e⟩
    · rw [fpSet_ne e1] at hx; exact S.out j x hx
/-- what an own slot holds -/
def Sl.own : Sl → Option (List D)
  | .ow xs => some xs
  | .io xs => some xs
  | _ => none
def Sl.with (s : Sl) (ys : List D) : Sl := match s with
  | .ow _ => .ow ys
  | .io _ => .io ys
  | s => s
theorem SR.ownAt (S : SR K mg C F H σ env fp) {i : Nat} {s : Sl} {xs : List D} (h : env[i]? = some s) (ho : s.own = some xs) : ∃ p vs, fp i = [p] ∧ σ[i]? = some (some (.ref p)) ∧ H p = some (.lst vs) ∧ Reps K mg F vs xs := by
  have q := S.sl i s h
  cases s with
  | no => cases ho
  | sh d => cases ho
  | ow ys => cases ho; obtain ⟨p, vs, a, b, c, d, r⟩ := q; exact ⟨p, vs, a, b, d, r⟩
  | io ys => cases ho; obtain ⟨p, vs, a, b, c, d, r⟩ := q; exact ⟨p, vs, a, b, d, r⟩
/-- an own slot's list is changed -/
theorem SR.write (S : SR K mg C F H σ env fp) {i : Nat} {s : Sl} {xs ys : List D} {p : Addr} {ws : List V} (h : env[i]? = some s) (ho : s.own = some xs) (hp : σ[i]? = some (some (.ref p))) (r : Reps K mg F ws ys) :
    SR K mg C F (upd H p (.lst ws)) σ (env.set i (s.with ys)) fp := by
  obtain ⟨p', vs, a, b, c, d⟩ := S.ownAt h ho
  have e : p' = p := by rw [b] at hp; cases hp; rfl
  subst e
  have hpi : p' ∈ fp i := by rw [a]; simp
  obtain ⟨o1, o2, o3⟩ := S.out i p' hpi
  have hi : i < env.length := (List.getElem?_eq_some_iff.mp h).1
  refine ⟨S.f0, fun x u hx => ?_, fun x u h1 h2 => ?_, S.fn, by rw [List.length_set]; exact S.ln, fun j t es => ?_, S.sep, fun j x hx => ?_, fun x hx => ?_, fun t ht => ?_⟩
  · rw [upd_ne (ne_of_none hx o1)]; exact S.fh x u hx
  · have hx : x ≠ p' := by
      intro z; subst z
      have q := S.sl i s h
      cases s with
      | no => cases ho
      | sh d => cases ho
      | ow ys => obtain ⟨p2, _, a2, _, c2, _⟩ := q; rw [a] at a2; cases a2; rw [h2] at c2; cases c2
      | io ys => obtain ⟨p2, _, a2, _, c2, _⟩ := q; rw [a] at a2; cases a2; exact h1 c2
    rw [upd_ne hx]; exact S.bh x u h1 h2
  · by_cases hj : j = i
    · subst hj
      rw [List.getElem?_set_self hi] at es
      cases es
      have q := S.sl j s h
      cases s with
      | no => cases ho
      | sh d => cases ho
      | ow zs => obtain ⟨p2, vs2, a2, b2, c2, _⟩ := q; rw [a] at a2; cases a2; exact ⟨p', ws, a, b, c2, upd_same, r⟩
      | io zs => obtain ⟨p2, vs2, a2, b2, c2, _⟩ := q; rw [a] at a2; cases a2; exact ⟨p', ws, a, b, c2, upd_same, r⟩
    · rw [List.getElem?_set_ne (Ne.symm hj)] at es
      refine (S.sl j t es).mono (Same.refl F) fun x hx => ?_
      rw [upd_ne]
      exact fun z => hj (S.sep j i p' (z ▸ hx) hpi)
  · obtain ⟨q1, q2, q3⟩ := S.out j x hx
    refine ⟨q1, ?_, q3⟩
    by_cases hx' : x = p'
    · subst hx'; rw [upd_same]; exact fun z => by cases z
    · rw [upd_ne hx']; exact q2
  · obtain ⟨q1, q2, q3⟩ := S.iof x hx
    refine ⟨q1, q2, ?_⟩
    by_cases hx' : x = p'
    · subst hx'; rw [upd_same]; exact fun z => by cases z
    · rw [upd_ne hx']; exact q3
  · obtain ⟨q1, q2, q3⟩ := S.tm t ht
    exact ⟨q1, q2, by rw [upd_ne (o3 t ht)]; exact q3⟩
/-- a slot is forgotten -/
theorem SR.forget (S : SR K mg C F H σ env fp) (i : Nat) (o : Option V) : SR K mg C F H (σ.set i o) (env.set i .no) (fpSet fp i []) where
  f0 := S.f0
  fh := S.fh
  bh := S.bh
  fn := S.fn
  ln := by rw [List.length_set, List.length_set]; exact S.ln
  sl := fun j s es => by
    by_cases hj : j = i
    · subst hj
      have hi : j < env.length := by
        have := (List.getElem?_eq_some_iff.mp es).1
        rw [List.length_set] at this; exact this
      rw [List.getElem?_set_self hi] at es
      cases es
      rw [fpSet_same]
      rfl
    · rw [List.getElem?_set_ne (Ne.symm hj)] at es
      rw [fpSet_ne hj, List.getElem?_set_ne (Ne.symm hj)]
      exact S.sl j s es
  sep := fun j k x hj hk => by
    by_cases e1 : j = i
    · subst e1; rw [fpSet_same] at hj; cases hj
    · by_cases e2 : k = i
      · subst e2; rw [fpSet_same] at hk; cases hk
      · rw [fpSet_ne e1] at hj; rw [fpSet_ne e2] at hk; exact S.sep j k x hj hk
  out := fun j x hx => by
    by_cases e1 : j = i
    · subst e1; rw [fpSet_same] at hx; cases hx
    · rw [fpSet_ne e1] at hx; exact S.out j x hx
  iof := S.iof
  tm := S.tm
end
end Dn

set_option Elab.async false
set_option linter.all false
set_option maxRecDepth 100000
set_option maxHeartbeats 4000000
/-! Dn, part 3: denotations of expressions, tests, arguments; how they are read; their rules. -/
namespace Dn
open PySem PySem.Spec PyProof.Rows L2

structure DE where
  run : En → (Rv → En → Prop) → Prop
  mono : ∀ env (Q Q' : Rv → En → Prop), (∀ r e, Q r e → Q' r e) → run env Q → run env Q'
structure DT where
  run : En → (Bool → En → Prop) → Prop
  mono : ∀ env (Q Q' : Bool → En → Prop), (∀ r e, Q r e → Q' r e) → run env Q → run env Q'
structure DA where
  run : En → (List D → En → Prop) → Prop
  mono : ∀ env (Q Q' : List D → En → Prop), (∀ r e, Q r e → Q' r e) → run env Q → run env Q'

/-- a new list is kept as data -/
def holdR : Rv → Rv
  | .fr ds => .sh (.lst ds)
  | r => r
/-- what a value holds, as it stands -/
def look (env : En) : Rv → Option D
  | .sh d => some d
  | .fr ds => some (.lst ds)
  | .bo i => match env[i]? with
    | some (.ow xs) => some (.lst xs)
    | some (.io xs) => some (.lst xs)
    | _ => none
/-- a value becomes data: an own list is not its slot's own any more -/
def dat (env : En) (r : Rv) (k : D → En → Prop) : Prop := match r with
  | .sh d => k d env
  | .fr ds => k (.lst ds) env
  | .bo i => match env[i]? with
    | some (.ow xs) => k (.lst xs) (env.set i (.sh (.lst xs)))
    | _ => False
theorem dat_mono {env : En} {r : Rv} {k k' : D → En → Prop} (h : ∀ d e, k d e → k' d e) (q : dat env r k) : dat env r k' := by
  unfold dat at q ⊢
  split at q
  · exact h _ _ q
  · exact h _ _ q
  · split at q
    · exact h _ _ q
    · exact q.elim

/-- a value by its top in the heap, its items as data -/
def RT (K : PySem.W.Frag) (mg : Str → Option Value) (F H : Hp) (v : V) : D → Prop
  | .lst ds => ∃ a vs, v = .ref a ∧ H a = some (.lst vs) ∧ Reps K mg F vs ds
  | d => Rep K mg F v d
section
variable {K : PySem.W.Frag} {mg : Str → Option Value} {C : Cn} {F F' H H' : Hp} {σ : L2.St} {env : En} {fp fp' : Nat → List Addr} {v : V}
theorem RT.of {d : D} (h : Rep K mg F v d) (e : Same F H) : RT K mg F H v d := by
  cases h with
  | lst h1 h2 => exact ⟨_, _, rfl, e _ _ h1, h2⟩
  | non => exact .non
  | bl b => exact .bl b
  | int i => exact .int i
  | str x => exact .str x
  | tup h1 h2 => exact .tup h1 h2
  | frz h1 h2 => exact .frz h1 h2
  | obj h1 h2 h3 h4 => exact .obj h1 h2 h3 h4
theorem RT.rep {d : D} (h : RT K mg F H v d) (e : Same F H) : Rep K mg H v d := by
  cases d with
  | lst ds => obtain ⟨a, vs, rfl, h1, h2⟩ := h; exact .lst h1 (h2.up e)
  | non => exact Rep.up (F := F) h e
  | bl b => exact Rep.up (F := F) h e
  | int i => exact Rep.up (F := F) h e
  | str x => exact Rep.up (F := F) h e
  | tup ds => exact Rep.up (F := F) h e
  | frz ds => exact Rep.up (F := F) h e
  | obj c ks ds => exact Rep.up (F := F) h e
theorem look_rt (S : SR K mg C F H σ env fp) {r : Rv} {d : D} (h : VR K mg C F H σ fp v r) (l : look env r = some d) : RT K mg F H v d := by
  cases r with
  | sh e => cases l; exact RT.of h S.fh
  | fr ds => cases l; obtain ⟨p, vs, rfl, _, _, c, q, _⟩ := h; exact ⟨p, vs, rfl, c, q⟩
  | bo i =>
    unfold look at l
    cases es : env[i]? with
    | none => simp only [es] at l; cases l
    | some s =>
      have e1 : σ[i]? = some (some v) := h
      cases s with
      | no => simp only [es] at l; cases l
      | sh _ => simp only [es] at l; cases l
      | ow xs =>
        simp only [es] at l; cases l
        obtain ⟨p, vs, _, b, hp, r⟩ := S.ownAt es rfl
        rw [b] at e1; cases e1
        exact ⟨p, vs, rfl, hp, r⟩
      | io xs =>
        simp only [es] at l; cases l
        obtain ⟨p, vs, _, b, hp, r⟩ := S.ownAt es rfl
        rw [b] at e1; cases e1
        exact ⟨p, vs, rfl, hp, r⟩
/-- keep a value while others are reckoned -/
theorem hold_ok (S : SR K mg C F H σ env fp) {r : Rv} (h : VR K mg C F H σ fp v r) : ∃ F', SR K mg C F' H σ env fp ∧ Same F F' ∧ VR K mg C F' H σ fp v (holdR r) := by
  cases r with
  | sh d => exact ⟨F, S, Same.refl F, h⟩
  | bo i => exact ⟨F, S, Same.refl F, h⟩
  | fr ds => exact S.frz h
theorem hold_up {r : Rv} (h : VR K mg C F H σ fp v (holdR r)) (e : Same F F') : VR K mg C F' H' σ fp' v (holdR r) := by
  cases r with
  | sh d => exact Rep.up (F := F) h e
  | bo i => exact h
  | fr ds => exact Rep.up (F := F) h e
theorem dat_ok (S : SR K mg C F H σ env fp) {r : Rv} (h : VR K mg C F H σ fp v r) {k : D → En → Prop} (q : dat env r k) : ∃ F' env' fp' d, SR K mg C F' H σ env' fp' ∧ Same F F' ∧ Rep K mg F' v d ∧ k d env' := by
  cases r with
  | sh d => exact ⟨F, env, fp, d, S, Same.refl F, h, q⟩
  | fr ds => obtain ⟨F', a, b, c⟩ := S.frz h; exact ⟨F', env, fp, _, a, b, c, q⟩
  | bo i =>
    unfold dat at q
    cases es : env[i]? with
    | none => simp only [es] at q
    | some s =>
      cases s with
      | no => simp only [es] at q
      | sh _ => simp only [es] at q
      | io _ => simp only [es] at q
      | ow xs =>
        simp only [es] at q
        obtain ⟨F', w, a, b, c, e⟩ := S.frzS es
        have e1 : σ[i]? = some (some v) := h
        rw [a] at e1; cases e1
        exact ⟨F', _, _, _, b, c, e, q⟩
end

/-! ### readings -/
def EPost (X : Cx) (C : Cn) (F : Hp) (σ : L2.St) (Q : VK) (r : Rv) (env' : En) : Prop :=
  ∀ F' H' fp' v, SR X.K X.mg C F' H' σ env' fp' → Same F F' → VR X.K X.mg C F' H' σ fp' v r → Q v H'
def LE (X : Cx) (t : DE) : TE := fun σ H Q => ∃ C F env fp, SR X.K X.mg C F H σ env fp ∧ t.run env (EPost X C F σ Q)
def LT (X : Cx) (t : DT) : TT := fun σ H Q => ∃ C F env fp, SR X.K X.mg C F H σ env fp ∧ t.run env fun b env' => ∀ F' H' fp', SR X.K X.mg C F' H' σ env' fp' → Same F F' → Q b H'
def LA (X : Cx) (t : DA) : TA := fun σ H Q => ∃ C F env fp, SR X.K X.mg C F H σ env fp ∧ t.run env fun ds env' => ∀ F' H' fp' vs, SR X.K X.mg C F' H' σ env' fp' → Same F F' → Reps X.K X.mg F' vs ds → Q vs H'
theorem EPost.up {X : Cx} {C : Cn} {F F' : Hp} {σ : L2.St} {Q : VK} {r : Rv} {e : En} (h : EPost X C F σ Q r e) (s : Same F F') : EPost X C F' σ Q r e :=
  fun F2 H2 fp2 v S s2 q => h F2 H2 fp2 v S (s.trans s2) q

section
variable {X : Cx} {e a b : Expr} {es : List Expr} {ta tb : DE} {pos : Pos}
theorem pe_imp {t t' : TE} (h : PE X e t) (m : ∀ σ H Q, t' σ H Q → t σ H Q) : PE X e t' := ⟨fun pins s σ H Q I q => h.run pins s σ H Q I (m σ H Q q)⟩
theorem pt_imp {t t' : TT} (h : PT X e t) (m : ∀ σ H Q, t' σ H Q → t σ H Q) : PT X e t' := ⟨fun pins s σ H Q I q => h.run pins s σ H Q I (m σ H Q q)⟩
theorem pw_imp {t t' : TT} (h : PW X e t) (m : ∀ σ H Q, t' σ H Q → t σ H Q) : PW X e t' := ⟨fun w pins s σ H Q I q => h.run w pins s σ H Q I (m σ H Q q)⟩
theorem pa_imp {t t' : TA} (h : PA X es t) (m : ∀ σ H Q, t' σ H Q → t σ H Q) : PA X es t' := ⟨fun p pins s σ H Q I q => h.run p pins s σ H Q I (m σ H Q q)⟩

/-! ### names, constants -/
def eVar (i : Nat) : DE where
  run env Q := match env[i]? with
    | some (.sh d) => Q (.sh d) env
    | some (.ow _) => Q (.bo i) env
    | some (.io _) => Q (.bo i) env
    | _ => False
  mono env Q Q' h q := by
    split at q
    · exact h _ _ q
    · exact h _ _ q
    · exact h _ _ q
    · exact q.elim
def eC (d : D) : DE where
  run env Q := Q (.sh d) env
  mono _ _ _ h q := h _ _ q
theorem de_var {i : Nat} {x : Str} (h : PE X (.Name x pos) (tVar i)) : PE X (.Name x pos) (LE X (eVar i)) := by
  refine pe_imp h fun σ H Q q => ?_
  obtain ⟨C, F, env, fp, S, q⟩ := q
  have q : (match env[i]? with
    | some (.sh d) => EPost X C F σ Q (.sh d) env
    | some (.ow _) => EPost X C F σ Q (.bo i) env
    | some (.io _) => EPost X C F σ Q (.bo i) env
    | _ => False) := q
  cases es : env[i]? with
  | none => simp only [es] at q
  | some s =>
    cases s with
    | no => simp only [es] at q
    | sh d =>
      simp only [es] at q
      obtain ⟨_, v, b, c⟩ := S.sl i _ es
      exact ⟨v, b, q F H fp v S (Same.refl F) c⟩
    | ow xs =>
      simp only [es] at q
      obtain ⟨p, vs, _, b, _⟩ := S.ownAt es rfl
      exact ⟨.ref p, b, q F H fp _ S (Same.refl F) b⟩
    | io xs =>
      simp only [es] at q
      obtain ⟨p, vs, _, b, _⟩ := S.ownAt es rfl
      exact ⟨.ref p, b, q F H fp _ S (Same.refl F) b⟩
theorem de_c {v : V} {d : D} (h : PE X e (tC v)) (r : ∀ F, Rep X.K X.mg F v d) : PE X e (LE X (eC d)) := by
  refine pe_imp h fun σ H Q q => ?_
  obtain ⟨C, F, env, fp, S, q⟩ := q
  exact q F H fp v S (Same.refl F) (r F)
theorem de_int {i j} : PE X (.Constant (.int i) j pos) (LE X (eC (.int i))) := de_c pe_int fun _ => .int i
theorem de_bl {i j} : PE X (.Constant (.bool i) j pos) (LE X (eC (.bl i))) := de_c pe_bl fun _ => .bl i
theorem de_non {j} : PE X (.Constant .none j pos) (LE X (eC .non)) := de_c pe_non fun _ => .non
theorem de_str {x j} : PE X (.Constant (.str x) j pos) (LE X (eC (.str x))) := de_c pe_str fun _ => .str x

/-! ### two places -/
/-- an operation on data: what it asks, what it gives -/
abbrev RO := D → D → Prop × Rv
def OpS (X : Cx) (f : Value → Value → Sem Value) (R : RO) : Prop :=
  ∃ r : R2, OpR X f r ∧ ∀ C F H σ env fp v u d e (Q : VK), SR X.K X.mg C F H σ env fp → RT X.K X.mg F H v d → RT X.K X.mg F H u e → (R d e).1 → EPost X C F σ Q (R d e).2 env → r v u H Q
def eOp (R : RO) (a b : DE) : DE where
  run env Q := a.run env fun x e1 => b.run e1 fun y e2 => match look e2 (holdR x), look e2 y with
    | some d, some e => (R d e).1 ∧ Q (R d e).2 e2
    | _, _ => False
  mono env Q Q' h q := by
    refine a.mono _ _ _ (fun x e1 q => ?_) q
    refine b.mono _ _ _ (fun y e2 q => ?_) q
    split at q
    · exact ⟨q.1, h _ _ q.2⟩
    · exact q.elim
theorem op_down {R : RO} {r : R2} (hr : ∀ C F H σ env fp v u d e (Q : VK), SR X.K X.mg C F H σ env fp → RT X.K X.mg F H v d → RT X.K X.mg F H u e → (R d e).1 → EPost X C F σ Q (R d e).2 env → r v u H Q)
    {σ : L2.St} {H : Hp} {Q : VK} (q : LE X (eOp R ta tb) σ H Q) : tOp r (LE X ta) (LE X tb) σ H Q := by
  obtain ⟨C, F, env, fp, S, q⟩ := q
  refine ⟨C, F, env, fp, S, ta.mono _ _ _ (fun x e1 q F1 H1 fp1 v S1 s1 r1 => ?_) q⟩
  obtain ⟨F1', S1', s1', r1'⟩ := hold_ok S1 r1
  refine ⟨C, F1', e1, fp1, S1', tb.mono _ _ _ (fun y e2 q F2 H2 fp2 u S2 s2 r2 => ?_) q⟩
  split at q
  · rename_i d e hd he
    exact hr C F2 H2 σ e2 fp2 v u d e Q S2 (look_rt S2 (hold_up r1' s2) hd) (look_rt S2 r2 he) q.1 (EPost.up q.2 ((s1.trans s1').trans s2))
  · exact q.elim
theorem de_op {op : Operator} {R : RO} (ho : OpS X (binaryOp op) R) (ha : PE X a (LE X ta)) (hb : PE X b (LE X tb)) : PE X (.BinOp a op b pos) (LE X (eOp R ta tb)) := by
  obtain ⟨r, h1, h2⟩ := ho
  exact pe_imp (pe_op h1 ha hb) fun σ H Q q => op_down h2 q
theorem de_cmp {op : CmpOp} {R : RO} (ho : OpS X (compareOp op) R) (ha : PE X a (LE X ta)) (hb : PE X b (LE X tb)) (hm : behindInMarks op b = false) : PE X (.Compare a [op] [b] pos) (LE X (eOp R ta tb)) := by
  obtain ⟨r, h1, h2⟩ := ho
  exact pe_imp (pe_cmpR h1 ha hb hm) fun σ H Q q => op_down h2 q
/-- a comparison as a test -/
def tB (t : DE) : DT where
  run env Q := t.run env fun r e => match r with
    | .sh (.bl b) => Q b e
    | _ => False
  mono env Q Q' h q := by
    refine t.mono _ _ _ (fun r e q => ?_) q
    split at q
    · exact h _ _ q
    · exact q.elim
theorem lt_tB {t : DE} {σ : L2.St} {H : Hp} {Q : Bool → Hp → Prop} (q : LT X (tB t) σ H Q) : LE X t σ H (fun x H' => ∃ k, x = .bl k ∧ Q k H') := by
  obtain ⟨C, F, env, fp, S, q⟩ := q
  have q : t.run env (fun r e => match r with
    | .sh (.bl b) => ∀ F' H' fp', SR X.K X.mg C F' H' σ e fp' → Same F F' → Q b H'
    | _ => False) := q
  refine ⟨C, F, env, fp, S, t.mono _ _ _ (fun r e q F' H' fp' v S' s' rv => ?_) q⟩
  split at q
  · cases rv
    exact ⟨_, rfl, q F' H' fp' S' s'⟩
  · exact q.elim
theorem dt_cmp {op : CmpOp} {R : RO} (ho : OpS X (compareOp op) R) (ha : PE X a (LE X ta)) (hb : PE X b (LE X tb)) (hm : behindInMarks op b = false) : PT X (.Compare a [op] [b] pos) (LT X (tB (eOp R ta tb))) := by
  obtain ⟨r, h1, h2⟩ := ho
  exact pt_imp (pt_cmpR h1 ha hb hm) fun σ H Q q => op_down h2 (lt_tB q)
/-- any value's truth -/
def truD : D → Prop × Bool
  | .non => (True, false)
  | .bl b => (True, b)
  | .int i => (True, i != 0)
  | .str x => (x.length ≤ 1000000, x.length != 0)
  | .lst ds => (True, !ds.isEmpty)
  | .tup ds => (True, !ds.isEmpty)
  | .frz ds => (True, !ds.isEmpty)
  | .obj _ _ _ => (False, true)
def tTru (t : DE) : DT where
  run env Q := t.run env fun r e => match look e r with
    | some d => (truD d).1 ∧ Q (truD d).2 e
    | none => False
  mono env Q Q' h q := by
    refine t.mono _ _ _ (fun r e q => ?_) q
    split at q
    · exact ⟨q.1, h _ _ q.2⟩
    · exact q.elim
theorem isEmpty_len {α β : Type} {xs : List α} {ys : List β} (h : xs.length = ys.length) : xs.isEmpty = ys.isEmpty := by
  cases xs <;> cases ys <;> first | rfl | (simp at h)
theorem tru_rt {K : PySem.W.Frag} {mg : Str → Option Value} {F H : Hp} {v : V} {d : D} (e : Same F H) (h : RT K mg F H v d) (c : (truD d).1) : TruV K v H (truD d).2 := by
  cases d with
  | non => cases (show Rep K mg F v .non from h); rfl
  | bl b => cases (show Rep K mg F v (.bl b) from h); rfl
  | int i => cases (show Rep K mg F v (.int i) from h); rfl
  | str x =>
    cases (show Rep K mg F v (.str x) from h)
    refine ⟨Nat.le_trans c (by decide), ?_⟩
    show (x.length != 0) = ((x.length : Int) != 0)
    by_cases hx : x.length = 0
    · rw [hx]; rfl
    · have : (x.length : Int) ≠ 0 := by omega
      rw [bne_iff_ne.mpr hx, bne_iff_ne.mpr this]
  | lst ds =>
    obtain ⟨a, vs, rfl, h1, h2⟩ := h
    exact .inl ⟨vs, SqL.of h1, by show (!ds.isEmpty) = _; rw [isEmpty_len h2.len]⟩
  | tup ds =>
    cases (show Rep K mg F v (.tup ds) from h) with
    | tup h1 h2 => exact .inr (.inl ⟨_, same_t e h1, by show (!ds.isEmpty) = _; rw [isEmpty_len h2.len]⟩)
  | frz ds =>
    cases (show Rep K mg F v (.frz ds) from h) with
    | frz h1 h2 => exact .inl ⟨_, e.seq h1, by show (!ds.isEmpty) = _; rw [isEmpty_len h2.len]⟩
  | obj c ks ds => exact (show False from c).elim
theorem dt_tru (ha : PE X a (LE X ta)) (he : ∀ whole, isTrue a X.env whole = (do let v ← whole; standAt a.pos; holding [v] (truthy v)) := by intro _; rfl) : PT X a (LT X (tTru ta)) := by
  refine pt_imp (pt_truth ha he) fun σ H Q q => ?_
  obtain ⟨C, F, env, fp, S, q⟩ := q
  refine ⟨C, F, env, fp, S, ta.mono _ _ _ (fun r e q F' H' fp' v S' s' rv => ?_) q⟩
  split at q
  · rename_i d hd
    exact ⟨_, tru_rt S'.fh (look_rt S' rv hd) q.1, q.2 F' H' fp' S' s'⟩
  · exact q.elim

/-! ### and, or, not, if -/
variable {tA tB' : DT} {rest : List Expr}
def tAnd (t u : DT) : DT where
  run env Q := t.run env fun c e1 => if c = true then u.run e1 Q else Q false e1
  mono env Q Q' h q := by
    refine t.mono _ _ _ (fun c e q => ?_) q
    cases c
    · exact h _ _ q
    · exact u.mono _ _ _ h q
def tOr (t u : DT) : DT where
  run env Q := t.run env fun c e1 => if c = true then Q true e1 else u.run e1 Q
  mono env Q Q' h q := by
    refine t.mono _ _ _ (fun c e q => ?_) q
    cases c
    · exact u.mono _ _ _ h q
    · exact h _ _ q
def tNot (t : DT) : DT where
  run env Q := t.run env fun c e1 => Q (!c) e1
  mono env Q Q' h q := t.mono _ _ _ (fun c e q => h _ _ q) q
theorem dw_and1 (ha : PT X a (LT X tA)) : PW X (.BoolOp .And [a] pos) (LT X tA) := pw_and1 ha
theorem dw_or1 (ha : PT X a (LT X tA)) : PW X (.BoolOp .Or [a] pos) (LT X tA) := pw_or1 ha
theorem dw_and (ha : PT X a (LT X tA)) (hb : PW X (.BoolOp .And (b :: rest) pos) (LT X tB')) : PW X (.BoolOp .And (a :: b :: rest) pos) (LT X (tAnd tA tB')) := by
  refine pw_imp (pw_and ha hb) fun σ H Q q => ?_
  obtain ⟨C, F, env, fp, S, q⟩ := q
  refine ⟨C, F, env, fp, S, tA.mono _ _ _ (fun c e q F' H' fp' S' s' => ?_) q⟩
  cases c with
  | true => exact ⟨C, F', e, fp', S', tB'.mono _ _ _ (fun c e q F2 H2 fp2 S2 s2 => q F2 H2 fp2 S2 (s'.trans s2)) q⟩
  | false => exact q F' H' fp' S' s'
theorem dw_or (ha : PT X a (LT X tA)) (hb : PW X (.BoolOp .Or (b :: rest) pos) (LT X tB')) : PW X (.BoolOp .Or (a :: b :: rest) pos) (LT X (tOr tA tB')) := by
  refine pw_imp (pw_or ha hb) fun σ H Q q => ?_
  obtain ⟨C, F, env, fp, S, q⟩ := q
  refine ⟨C, F, env, fp, S, tA.mono _ _ _ (fun c e q F' H' fp' S' s' => ?_) q⟩
  cases c with
  | false => exact ⟨C, F', e, fp', S', tB'.mono _ _ _ (fun c e q F2 H2 fp2 S2 s2 => q F2 H2 fp2 S2 (s'.trans s2)) q⟩
  | true => exact q F' H' fp' S' s'
theorem dt_not (ha : PT X a (LT X tA)) : PT X (.UnaryOp .Not a pos) (LT X (tNot tA)) := by
  refine pt_imp (pt_not ha) fun σ H Q q => ?_
  obtain ⟨C, F, env, fp, S, q⟩ := q
  exact ⟨C, F, env, fp, S, tA.mono _ _ _ (fun c e q => q) q⟩
/-- and, or, not as values: bools -/
def eAnd (a b : DE) : DE where
  run env Q := a.run env fun r e1 => match r with
    | .sh (.bl c) => if c = true then b.run e1 Q else Q (.sh (.bl false)) e1
    | _ => False
  mono env Q Q' h q := by
    refine a.mono _ _ _ (fun r e q => ?_) q
    split at q
    · rename_i c
      cases c
      · exact h _ _ q
      · exact b.mono _ _ _ h q
    · exact q.elim
def eOr (a b : DE) : DE where
  run env Q := a.run env fun r e1 => match r with
    | .sh (.bl c) => if c = true then Q (.sh (.bl true)) e1 else b.run e1 Q
    | _ => False
  mono env Q Q' h q := by
    refine a.mono _ _ _ (fun r e q => ?_) q
    split at q
    · rename_i c
      cases c
      · exact b.mono _ _ _ h q
      · exact h _ _ q
    · exact q.elim
def eNot (a : DE) : DE where
  run env Q := a.run env fun r e1 => match r with
    | .sh (.bl c) => Q (.sh (.bl (!c))) e1
    | _ => False
  mono env Q Q' h q := by
    refine a.mono _ _ _ (fun r e q => ?_) q
    split at q
    · exact h _ _ q
    · exact q.elim
theorem de_one {op} (h : PE X a (LE X ta)) : PE X (.BoolOp op [a] pos) (LE X ta) := pe_one h
theorem de_and (ha : PE X a (LE X ta)) (hb : PE X (.BoolOp .And (b :: rest) pos) (LE X tb)) : PE X (.BoolOp .And (a :: b :: rest) pos) (LE X (eAnd ta tb)) := by
  refine pe_imp (pe_and ha hb) fun σ H Q q => ?_
  obtain ⟨C, F, env, fp, S, q⟩ := q
  refine ⟨C, F, env, fp, S, ta.mono _ _ _ (fun r e q F' H' fp' v S' s' rv => ?_) q⟩
  split at q
  · rename_i c
    cases rv
    refine ⟨c, rfl, ?_⟩
    cases c with
    | true => exact ⟨C, F', e, fp', S', tb.mono _ _ _ (fun r e q => q.up s') q⟩
    | false => exact q F' H' fp' _ S' s' (.bl false)
  · exact q.elim
theorem de_or (ha : PE X a (LE X ta)) (hb : PE X (.BoolOp .Or (b :: rest) pos) (LE X tb)) : PE X (.BoolOp .Or (a :: b :: rest) pos) (LE X (eOr ta tb)) := by
  refine pe_imp (pe_or ha hb) fun σ H Q q => ?_
  obtain ⟨C, F, env, fp, S, q⟩ := q
  refine ⟨C, F, env, fp, S, ta.mono _ _ _ (fun r e q F' H' fp' v S' s' rv => ?_) q⟩
  split at q
  · rename_i c
    cases rv
    refine ⟨c, rfl, ?_⟩
    cases c with
    | false => exact ⟨C, F', e, fp', S', tb.mono _ _ _ (fun r e q => q.up s') q⟩
    | true => exact q F' H' fp' _ S' s' (.bl true)
  · exact q.elim
theorem de_not (ha : PE X a (LE X ta)) : PE X (.UnaryOp .Not a pos) (LE X (eNot ta)) := by
  refine pe_imp (pe_not ha) fun σ H Q q => ?_
  obtain ⟨C, F, env, fp, S, q⟩ := q
  refine ⟨C, F, env, fp, S, ta.mono _ _ _ (fun r e q F' H' fp' v S' s' rv => ?_) q⟩
  split at q
  · rename_i c
    cases rv
    exact ⟨c, rfl, q F' H' fp' _ S' s' (.bl _)⟩
  · exact q.elim
def eIf (t : DT) (a b : DE) : DE where
  run env Q := t.run env fun c e1 => if c = true then a.run e1 Q else b.run e1 Q
  mono env Q Q' h q := by
    refine t.mono _ _ _ (fun c e q => ?_) q
    cases c
    · exact b.mono _ _ _ h q
    · exact a.mono _ _ _ h q
theorem de_if {c : Expr} (hc : PT X c (LT X tA)) (ha : PE X a (LE X ta)) (hb : PE X b (LE X tb)) : PE X (.IfExp c a b pos) (LE X (eIf tA ta tb)) := by
  refine pe_imp (pe_ifExp hc ha hb) fun σ H Q q => ?_
  obtain ⟨C, F, env, fp, S, q⟩ := q
  refine ⟨C, F, env, fp, S, tA.mono _ _ _ (fun c e q F' H' fp' S' s' => ?_) q⟩
  cases c with
  | true => exact ⟨C, F', e, fp', S', ta.mono _ _ _ (fun r e q => q.up s') q⟩
  | false => exact ⟨C, F', e, fp', S', tb.mono _ _ _ (fun r e q => q.up s') q⟩
/-- a < b < c -/
def eChain (R R' : RO) (a b c : DE) : DE where
  run env Q := a.run env fun x e1 => b.run e1 fun y e2 => match look e2 (holdR x), look e2 (holdR y) with
    | some d, some e => (R d e).1 ∧ match (R d e).2 with
      | .sh (.bl k) => if k = true then c.run e2 fun z e3 => match look e3 (holdR y), look e3 z with
          | some d, some e => (R' d e).1 ∧ Q (R' d e).2 e3
          | _, _ => False
        else Q (.sh (.bl false)) e2
      | _ => False
    | _, _ => False
  mono env Q Q' h q := by
    refine a.mono _ _ _ (fun x e1 q => ?_) q
    refine b.mono _ _ _ (fun y e2 q => ?_) q
    split at q
    · refine ⟨q.1, ?_⟩
      have q := q.2
      split at q
      · split at q
        · rename_i hk
          rw [if_pos hk]
          refine c.mono _ _ _ (fun z e3 q => ?_) q
          split at q
          · exact ⟨q.1, h _ _ q.2⟩
          · exact q.elim
        · rename_i hk
          rw [if_neg hk]
          exact h _ _ q
      · exact q.elim
    · exact q.elim
end
end Dn

set_option Elab.async false
set_option linter.all false
set_option maxRecDepth 100000
set_option maxHeartbeats 4000000
/-! Dn, part 4: arguments, displays, operations. -/
namespace Dn
open PySem PySem.Spec PyProof.Rows L2

theorem lim_line {n : Nat} (h : n ≤ 1000000) : n ≤ sizeLine := Nat.le_trans h (by decide)
theorem lim_lt {n : Nat} (h : n ≤ 1000000) : n < sizeLine := Nat.lt_of_le_of_lt h (by decide)

/-! ### arguments, displays -/
def aNil : DA where
  run env Q := Q [] env
  mono _ _ _ h q := h _ _ q
def aCons (e : DE) (r : DA) : DA where
  run env Q := e.run env fun x e1 => dat e1 x fun d e2 => r.run e2 fun ds e3 => Q (d :: ds) e3
  mono env Q Q' h q := by
    refine e.mono _ _ _ (fun x e1 q => ?_) q
    refine dat_mono (fun d e2 q => ?_) q
    exact r.mono _ _ _ (fun ds e3 q => h _ _ q) q
def eTup (a : DA) : DE where
  run env Q := a.run env fun ds e1 => ds.length ≤ 1000000 ∧ Q (.sh (.tup ds)) e1
  mono env Q Q' h q := a.mono _ _ _ (fun ds e1 q => ⟨q.1, h _ _ q.2⟩) q
def eLst (a : DA) : DE where
  run env Q := a.run env fun ds e1 => ds.length ≤ 1000000 ∧ Q (.fr ds) e1
  mono env Q Q' h q := a.mono _ _ _ (fun ds e1 q => ⟨q.1, h _ _ q.2⟩) q
section
variable {X : Cx} {e a b c : Expr} {es : List Expr} {te ta tb tc : DE} {tr : DA} {pos : Pos}
theorem da_nil : PA X [] (LA X aNil) := by
  refine pa_imp pa_nil fun σ H Q q => ?_
  obtain ⟨C, F, env, fp, S, q⟩ := q
  exact q F H fp [] S (Same.refl F) .nil
theorem da_cons (ha : PE X e (LE X te)) (hr : PA X es (LA X tr)) (hs : starEach (e :: es) X.env = (false, eval e X.env) :: starEach es X.env := by rfl) : PA X (e :: es) (LA X (aCons te tr)) := by
  refine pa_imp (pa_cons ha hr hs) fun σ H Q q => ?_
  obtain ⟨C, F, env, fp, S, q⟩ := q
  refine ⟨C, F, env, fp, S, te.mono _ _ _ (fun r e1 q F1 H1 fp1 v S1 s1 r1 => ?_) q⟩
  obtain ⟨F2, e2, fp2, d, S2, s2, r2, q⟩ := dat_ok S1 r1 q
  refine ⟨C, F2, e2, fp2, S2, tr.mono _ _ _ (fun ds e3 q F3 H3 fp3 vs S3 s3 r3 => ?_) q⟩
  exact q F3 H3 fp3 (v :: vs) S3 ((s1.trans s2).trans s3) (.cons (r2.up s3) r3)
theorem de_tup {x1} (h : PA X es (LA X tr)) : PE X (.Tuple es x1 pos) (LE X (eTup tr)) := by
  refine pe_imp (pe_tup h) fun σ H Q q => ?_
  obtain ⟨C, F, env, fp, S, q⟩ := q
  refine ⟨C, F, env, fp, S, tr.mono _ _ _ (fun ds e1 q F1 H1 fp1 vs S1 s1 r1 => ?_) q⟩
  refine ⟨lim_line (by rw [r1.len]; exact q.1), fun p hp => ?_⟩
  have sf : Same F1 (upd F1 p (.tup vs)) := same_upd (S1.fresh hp).1
  exact q.2 _ _ fp1 _ (S1.new (.tup vs) hp) (s1.trans sf) (.tup (SqT.of upd_same) (r1.up sf))
theorem de_lst (h : PA X es (LA X tr)) : PE X (.List es pos) (LE X (eLst tr)) := by
  refine pe_imp (pe_lst h) fun σ H Q q => ?_
  obtain ⟨C, F, env, fp, S, q⟩ := q
  refine ⟨C, F, env, fp, S, tr.mono _ _ _ (fun ds e1 q F1 H1 fp1 vs S1 s1 r1 => ?_) q⟩
  refine ⟨lim_line (by rw [r1.len]; exact q.1), fun p hp => ?_⟩
  obtain ⟨a, b⟩ := S1.newL hp r1
  exact q.2 _ _ fp1 _ a s1 b
end

/-! ### what the operations ask -/
section
variable {X : Cx}
/-- a rule over values serves an operation on data -/
def Serves (X : Cx) (r : R2) (R : RO) : Prop := ∀ C F H σ env fp v u d e (Q : VK), SR X.K X.mg C F H σ env fp → RT X.K X.mg F H v d → RT X.K X.mg F H u e → (R d e).1 → EPost X C F σ Q (R d e).2 env → r v u H Q
theorem serves {f : Value → Value → Sem Value} {r : R2} {R : RO} (h : OpR X f r) (s : Serves X r R) : OpS X f R := ⟨r, h, s⟩
section
variable {C : Cn} {F H : Hp} {σ : L2.St} {env : En} {fp : Nat → List Addr} {Q : VK}
theorem post_sc {v : V} {d : D} (S : SR X.K X.mg C F H σ env fp) (r : ∀ F, Rep X.K X.mg F v d) (q : EPost X C F σ Q (.sh d) env) : Q v H := q F H fp v S (Same.refl F) (r F)
theorem post_int {i : Int} (S : SR X.K X.mg C F H σ env fp) (q : EPost X C F σ Q (.sh (.int i)) env) : Q (.int i) H := post_sc S (fun _ => .int i) q
theorem post_bl {i : Bool} (S : SR X.K X.mg C F H σ env fp) (q : EPost X C F σ Q (.sh (.bl i)) env) : Q (.bl i) H := post_sc S (fun _ => .bl i) q
theorem post_str {i : Str} (S : SR X.K X.mg C F H σ env fp) (q : EPost X C F σ Q (.sh (.str i)) env) : Q (.str i) H := post_sc S (fun _ => .str i) q
theorem post_fr {vs : List V} {ds : List D} {p : Addr} (S : SR X.K X.mg C F H σ env fp) (r : Reps X.K X.mg F vs ds) (q : EPost X C F σ Q (.fr ds) env) (hp : H p = none) : Q (.ref p) (upd H p (.lst vs)) := by
  obtain ⟨a, b⟩ := S.newL hp r
  exact q F _ fp _ a (Same.refl F) b
theorem post_tup {vs : List V} {ds : List D} {p : Addr} (S : SR X.K X.mg C F H σ env fp) (r : Reps X.K X.mg F vs ds) (q : EPost X C F σ Q (.sh (.tup ds)) env) (hp : H p = none) : Q (.ref p) (upd H p (.tup vs)) := by
  have sf : Same F (upd F p (.tup vs)) := same_upd (S.fresh hp).1
  exact q _ _ fp _ (S.new (.tup vs) hp) sf (.tup (SqT.of upd_same) (r.up sf))
theorem rt_int {K : PySem.W.Frag} {mg : Str → Option Value} {v : V} {i : Int} (h : RT K mg F H v (.int i)) : v = .int i := by cases (show Rep K mg F v (.int i) from h); rfl
theorem rt_bl {K : PySem.W.Frag} {mg : Str → Option Value} {v : V} {i : Bool} (h : RT K mg F H v (.bl i)) : v = .bl i := by cases (show Rep K mg F v (.bl i) from h); rfl
theorem rt_str {K : PySem.W.Frag} {mg : Str → Option Value} {v : V} {i : Str} (h : RT K mg F H v (.str i)) : v = .str i := by cases (show Rep K mg F v (.str i) from h); rfl
theorem rt_non {K : PySem.W.Frag} {mg : Str → Option Value} {v : V} (h : RT K mg F H v .non) : v = .non := by cases (show Rep K mg F v .non from h); rfl
theorem rt_tup {K : PySem.W.Frag} {mg : Str → Option Value} {v : V} {ds : List D} (h : RT K mg F H v (.tup ds)) : ∃ a vs, v = .ref a ∧ SqT K F a vs ∧ Reps K mg F vs ds := by
  cases (show Rep K mg F v (.tup ds) from h) with
  | tup h1 h2 => exact ⟨_, _, rfl, h1, h2⟩
theorem rt_frz {K : PySem.W.Frag} {mg : Str → Option Value} {v : V} {ds : List D} (h : RT K mg F H v (.frz ds)) : ∃ a vs, v = .ref a ∧ SqL K F a vs ∧ Reps K mg F vs ds := by
  cases (show Rep K mg F v (.frz ds) from h) with
  | frz h1 h2 => exact ⟨_, _, rfl, h1, h2⟩
end

/-! ### arithmetic -/
def addR : RO
  | .int i, .int j => (True, .sh (.int (i + j)))
  | .lst xs, .lst ys => (xs.length + ys.length ≤ 1000000, .fr (xs ++ ys))
  | .tup xs, .tup ys => (xs ≠ [] ∧ xs.length + ys.length ≤ 1000000, .sh (.tup (xs ++ ys)))
  | .str x, .str y => (x.length + y.length ≤ 1000000, .sh (.str (x ++ y)))
  | .int i, .bl k => (True, .sh (.int (i + b2i k)))
  | _, _ => (False, .sh .non)
def subR : RO
  | .int i, .int j => (True, .sh (.int (i - j)))
  | _, _ => (False, .sh .non)
def mulR : RO
  | .int i, .int j => (IntMulOk i j, .sh (.int (i * j)))
  | .lst xs, .int k => (k ≤ 1000000 ∧ -1000000 ≤ k ∧ xs.length * k.toNat ≤ 1000000, .fr (List.replicate k.toNat xs).flatten)
  | _, _ => (False, .sh .non)
def DivOk (i j : Int) : Prop := j ≠ 0 ∧ Builtin.divisionGoesByPylong i j = false
def fdivR : RO
  | .int i, .int j => (DivOk i j, .sh (.int (i.fdiv j)))
  | _, _ => (False, .sh .non)
def modR : RO
  | .int i, .int j => (j ≠ 0, .sh (.int (i.fmod j)))
  | _, _ => (False, .sh .non)
def powR : RO
  | .int i, .int j => (0 ≤ j ∧ j ≤ 1000000 ∧ i.natAbs < 2 ^ 64, .sh (.int (i ^ j.toNat)))
  | _, _ => (False, .sh .non)
def shlR : RO
  | .int i, .int j => (0 ≤ j ∧ j ≤ 1000000 ∧ i.natAbs < 2 ^ 64, .sh (.int (i * 2 ^ j.toNat)))
  | _, _ => (False, .sh .non)
def shrR : RO
  | .int i, .int j => (0 ≤ j, .sh (.int (i / 2 ^ j.toNat)))
  | _, _ => (False, .sh .non)
def andR : RO
  | .int i, .int j => (True, .sh (.int (Builtin.bitAnd i j)))
  | _, _ => (False, .sh .non)
theorem reps_rep {K : PySem.W.Frag} {mg : Str → Option Value} {F : Hp} {vs : List V} {ds : List D} (h : Reps K mg F vs ds) : ∀ k : Nat, Reps K mg F (List.replicate k vs).flatten (List.replicate k ds).flatten
  | 0 => .nil
  | k + 1 => by
    rw [List.replicate_succ, List.replicate_succ, List.flatten_cons, List.flatten_cons]
    exact h.app (reps_rep h k)
theorem os_add : OpS X (binaryOp .Add) addR := by
  refine serves (op_add.or (op_cat.or (op_catT.or (op_add_str.or op_add_ib)))) fun C F H σ env fp v u d e Q S hv hu c q => ?_
  cases d <;> cases e <;> first | exact (show False from c).elim | skip
  · cases rt_int hv; cases rt_bl hu; exact .inr (.inr (.inr (.inr ⟨_, _, rfl, rfl, post_int S q⟩)))
  · cases rt_int hv; cases rt_int hu; exact .inl ⟨_, _, rfl, rfl, post_int S q⟩
  · cases rt_str hv; cases rt_str hu; exact .inr (.inr (.inr (.inl ⟨_, _, rfl, rfl, lim_line c, post_str S q⟩)))
  · obtain ⟨a, vs, rfl, h1, r1⟩ := hv
    obtain ⟨b, ws, rfl, h2, r2⟩ := hu
    have z : vs.length + ws.length ≤ 1000000 := by rw [r1.len, r2.len]; exact c
    exact .inr (.inl ⟨a, b, vs, ws, rfl, rfl, h1, h2, lim_line z, fun p hp => post_fr S (r1.app r2) q hp⟩)
  · obtain ⟨a, vs, rfl, h1, r1⟩ := rt_tup hv
    obtain ⟨b, ws, rfl, h2, r2⟩ := rt_tup hu
    obtain ⟨c1, c2⟩ := c
    have z : vs.length + ws.length ≤ 1000000 := by rw [r1.len, r2.len]; exact c2
    refine .inr (.inr (.inl ⟨a, b, vs, ws, rfl, rfl, same_t S.fh h1, same_t S.fh h2, fun e => ?_, lim_line z, fun e => ?_, fun e p hp => post_tup S (r1.app r2) q hp⟩))
    · subst e; cases r1; exact c1 rfl
    · subst e
      cases r2
      have q : EPost X C F σ Q (.sh (.tup (_ ++ []))) env := q
      rw [List.append_nil] at q
      exact q F H fp _ S (Same.refl F) (.tup h1 r1)
theorem os_sub : OpS X (binaryOp .Sub) subR := by
  refine serves op_sub fun C F H σ env fp v u d e Q S hv hu c q => ?_
  cases d <;> cases e <;> first | exact (show False from c).elim | skip
  cases rt_int hv; cases rt_int hu; exact ⟨_, _, rfl, rfl, post_int S q⟩
theorem op_mulD : OpR X (binaryOp .Mult) (rI IntMulOk fun i j => .int (i * j)) := opI fun _ _ _ _ _ _ _ hc q => mul_int q hc
theorem os_mul : OpS X (binaryOp .Mult) mulR := by
  refine serves (op_mulD.or op_rep) fun C F H σ env fp v u d e Q S hv hu c q => ?_
  cases d <;> cases e <;> first | exact (show False from c).elim | skip
  · cases rt_int hv; cases rt_int hu; exact .inl ⟨_, _, rfl, rfl, c, post_int S q⟩
  · obtain ⟨a, vs, rfl, h1, r1⟩ := hv
    cases rt_int hu
    obtain ⟨c1, c2, c3⟩ := c
    exact .inr ⟨a, _, vs, rfl, rfl, h1, by omega, by omega, lim_line (by rw [r1.len]; exact c3), fun p hp => post_fr S (reps_rep r1 _) q hp⟩
theorem op_fdivD : OpR X (binaryOp .FloorDiv) (rI DivOk fun i j => .int (i.fdiv j)) := opI fun _ _ _ _ _ _ _ hc q => floordiv_int hc.1 q (.inl hc.2)
theorem os_fdiv : OpS X (binaryOp .FloorDiv) fdivR := by
  refine serves op_fdivD fun C F H σ env fp v u d e Q S hv hu c q => ?_
  cases d <;> cases e <;> first | exact (show False from c).elim | skip
  cases rt_int hv; cases rt_int hu; exact ⟨_, _, rfl, rfl, c, post_int S q⟩
theorem os_mod : OpS X (binaryOp .Mod) modR := by
  refine serves op_modN fun C F H σ env fp v u d e Q S hv hu c q => ?_
  cases d <;> cases e <;> first | exact (show False from c).elim | skip
  cases rt_int hv; cases rt_int hu; exact ⟨_, _, rfl, rfl, c, post_int S q⟩
theorem os_pow : OpS X (binaryOp .Pow) powR := by
  refine serves op_pow fun C F H σ env fp v u d e Q S hv hu c q => ?_
  cases d <;> cases e <;> first | exact (show False from c).elim | skip
  cases rt_int hv; cases rt_int hu; exact ⟨_, _, rfl, rfl, c, post_int S q⟩
theorem os_shl : OpS X (binaryOp .LShift) shlR := by
  refine serves op_shl fun C F H σ env fp v u d e Q S hv hu c q => ?_
  cases d <;> cases e <;> first | exact (show False from c).elim | skip
  cases rt_int hv; cases rt_int hu; exact ⟨_, _, rfl, rfl, c, post_int S q⟩
theorem os_shr : OpS X (binaryOp .RShift) shrR := by
  refine serves op_shr fun C F H σ env fp v u d e Q S hv hu c q => ?_
  cases d <;> cases e <;> first | exact (show False from c).elim | skip
  cases rt_int hv; cases rt_int hu; exact ⟨_, _, rfl, rfl, c, post_int S q⟩
theorem os_and : OpS X (binaryOp .BitAnd) andR := by
  refine serves op_and fun C F H σ env fp v u d e Q S hv hu c q => ?_
  cases d <;> cases e <;> first | exact (show False from c).elim | skip
  cases rt_int hv; cases rt_int hu; exact ⟨_, _, rfl, rfl, post_int S q⟩
/-! in place: the same on ints and texts -/
theorem iop_mulD : OpR X (inplaceOp .Mult) (rI IntMulOk fun i j => .int (i * j)) := opI fun _ _ _ _ _ _ _ hc q => imul_int q hc
theorem iop_fdivD : OpR X (inplaceOp .FloorDiv) (rI DivOk fun i j => .int (i.fdiv j)) := opI fun _ _ _ _ _ _ _ hc q => ifloordiv_int hc.1 q (.inl hc.2)
def iaddR : RO
  | .int i, .int j => (True, .sh (.int (i + j)))
  | .str x, .str y => (x.length + y.length ≤ 1000000, .sh (.str (x ++ y)))
  | _, _ => (False, .sh .non)
def imulR : RO
  | .int i, .int j => (IntMulOk i j, .sh (.int (i * j)))
  | _, _ => (False, .sh .non)
theorem is_add : OpS X (inplaceOp .Add) iaddR := by
  refine serves (iop_add.or iop_add_str) fun C F H σ env fp v u d e Q S hv hu c q => ?_
  cases d <;> cases e <;> first | exact (show False from c).elim | skip
  · cases rt_int hv; cases rt_int hu; exact .inl ⟨_, _, rfl, rfl, post_int S q⟩
  · cases rt_str hv; cases rt_str hu; exact .inr ⟨_, _, rfl, rfl, lim_line c, post_str S q⟩
theorem is_sub : OpS X (inplaceOp .Sub) subR := by
  refine serves iop_sub fun C F H σ env fp v u d e Q S hv hu c q => ?_
  cases d <;> cases e <;> first | exact (show False from c).elim | skip
  cases rt_int hv; cases rt_int hu; exact ⟨_, _, rfl, rfl, post_int S q⟩
theorem is_mul : OpS X (inplaceOp .Mult) imulR := by
  refine serves iop_mulD fun C F H σ env fp v u d e Q S hv hu c q => ?_
  cases d <;> cases e <;> first | exact (show False from c).elim | skip
  cases rt_int hv; cases rt_int hu; exact ⟨_, _, rfl, rfl, c, post_int S q⟩
theorem is_fdiv : OpS X (inplaceOp .FloorDiv) fdivR := by
  refine serves iop_fdivD fun C F H σ env fp v u d e Q S hv hu c q => ?_
  cases d <;> cases e <;> first | exact (show False from c).elim | skip
  cases rt_int hv; cases rt_int hu; exact ⟨_, _, rfl, rfl, c, post_int S q⟩

/-! ### comparisons -/
def ltR : RO
  | .int i, .int j => (True, .sh (.bl (decide (i < j))))
  | .str x, .str y => (True, .sh (.bl (decide (x.cps.toList < y.cps.toList))))
  | _, _ => (False, .sh .non)
def leR : RO
  | .int i, .int j => (True, .sh (.bl (decide (i ≤ j))))
  | _, _ => (False, .sh .non)
def gtR : RO
  | .int i, .int j => (True, .sh (.bl (decide (j < i))))
  | _, _ => (False, .sh .non)
def geR : RO
  | .int i, .int j => (True, .sh (.bl (decide (j ≤ i))))
  | _, _ => (False, .sh .non)
def eqR : RO := fun d e => (d.fin 20 ∧ e.fin 20, .sh (.bl (eqD d e)))
def neR : RO := fun d e => (d.fin 20 ∧ e.fin 20, .sh (.bl (!eqD d e)))
def isNon : D → Bool
  | .non => true
  | _ => false
def isNR : RO
  | d, .non => (True, .sh (.bl (isNon d)))
  | _, _ => (False, .sh .non)
def notNR : RO
  | d, .non => (True, .sh (.bl (!isNon d)))
  | _, _ => (False, .sh .non)
theorem os_lt : OpS X (compareOp .Lt) ltR := by
  refine serves (op_lt.or op_lt_str) fun C F H σ env fp v u d e Q S hv hu c q => ?_
  cases d <;> cases e <;> first | exact (show False from c).elim | skip
  · cases rt_int hv; cases rt_int hu; exact .inl ⟨_, _, rfl, rfl, post_bl S q⟩
  · cases rt_str hv; cases rt_str hu; exact .inr ⟨_, _, rfl, rfl, post_bl S q⟩
theorem os_le : OpS X (compareOp .LtE) leR := by
  refine serves op_le fun C F H σ env fp v u d e Q S hv hu c q => ?_
  cases d <;> cases e <;> first | exact (show False from c).elim | skip
  cases rt_int hv; cases rt_int hu; exact ⟨_, _, rfl, rfl, post_bl S q⟩
theorem os_gt : OpS X (compareOp .Gt) gtR := by
  refine serves op_gt fun C F H σ env fp v u d e Q S hv hu c q => ?_
  cases d <;> cases e <;> first | exact (show False from c).elim | skip
  cases rt_int hv; cases rt_int hu; exact ⟨_, _, rfl, rfl, post_bl S q⟩
theorem os_ge : OpS X (compareOp .GtE) geR := by
  refine serves op_ge fun C F H σ env fp v u d e Q S hv hu c q => ?_
  cases d <;> cases e <;> first | exact (show False from c).elim | skip
  cases rt_int hv; cases rt_int hu; exact ⟨_, _, rfl, rfl, post_bl S q⟩
theorem os_eq (hu : X.A.units + 64 < cLine) : OpS X (compareOp .Eq) eqR :=
  serves (op_eqD hu) fun C F H σ env fp v u d e Q S hv hu c q => ⟨d.py, e.py, fin_dp c.1 (hv.rep S.fh), fin_dp c.2 (hu.rep S.fh), fin_shaped c.1 (by decide), fin_shaped c.2 (by decide), post_bl S q⟩
theorem os_ne (hu : X.A.units + 64 < cLine) : OpS X (compareOp .NotEq) neR :=
  serves (op_neD hu) fun C F H σ env fp v u d e Q S hv hu c q => ⟨d.py, e.py, fin_dp c.1 (hv.rep S.fh), fin_dp c.2 (hu.rep S.fh), fin_shaped c.1 (by decide), fin_shaped c.2 (by decide), post_bl S q⟩
theorem rt_isnon {K : PySem.W.Frag} {mg : Str → Option Value} {F H : Hp} {v : V} {d : D} (h : RT K mg F H v d) : decide (v = .non) = isNon d := by
  cases d with
  | non => rw [rt_non h]; rfl
  | bl b => rw [rt_bl h]; rfl
  | int b => rw [rt_int h]; rfl
  | str b => rw [rt_str h]; rfl
  | lst ds => obtain ⟨a, vs, rfl, _⟩ := h; rfl
  | tup ds => obtain ⟨a, vs, rfl, _⟩ := rt_tup h; rfl
  | frz ds => obtain ⟨a, vs, rfl, _⟩ := rt_frz h; rfl
  | obj c ks ds => cases (show Rep K mg F v (.obj c ks ds) from h); rfl
theorem os_isN : OpS X (compareOp .Is) isNR := by
  refine serves op_isN fun C F H σ env fp v u d e Q S hv hu c q => ?_
  cases e <;> first | (cases d <;> exact (show False from c).elim) | skip
  refine ⟨rt_non hu, ?_⟩
  rw [rt_isnon hv]
  exact post_bl S (show EPost X C F σ Q (.sh (.bl (isNon d))) env from by cases d <;> exact q)
theorem os_notN : OpS X (compareOp .IsNot) notNR := by
  refine serves op_notN fun C F H σ env fp v u d e Q S hv hu c q => ?_
  cases e <;> first | (cases d <;> exact (show False from c).elim) | skip
  refine ⟨rt_non hu, ?_⟩
  rw [rt_isnon hv]
  exact post_bl S (show EPost X C F σ Q (.sh (.bl (!isNon d))) env from by cases d <;> exact q)
/-! in a list or tuple of flat things -/
def inD (d : D) (ds : List D) : Bool := ds.any fun e => eqD e d
def inR : RO
  | d, .lst ds => (d.flat = true ∧ ds.all D.flat = true, .sh (.bl (inD d ds)))
  | d, .tup ds => (d.flat = true ∧ ds.all D.flat = true, .sh (.bl (inD d ds)))
  | d, .frz ds => (d.flat = true ∧ ds.all D.flat = true, .sh (.bl (inD d ds)))
  | _, _ => (False, .sh .non)
def ninR : RO
  | d, .lst ds => (d.flat = true ∧ ds.all D.flat = true, .sh (.bl (!inD d ds)))
  | d, .tup ds => (d.flat = true ∧ ds.all D.flat = true, .sh (.bl (!inD d ds)))
  | d, .frz ds => (d.flat = true ∧ ds.all D.flat = true, .sh (.bl (!inD d ds)))
  | _, _ => (False, .sh .non)
theorem flat_V {K : PySem.W.Frag} {mg : Str → Option Value} {F : Hp} {v : V} {d : D} (h : Rep K mg F v d) (f : d.flat = true) : flatV v = true := by
  cases h <;> first | rfl | cases f
theorem eqV_D {K : PySem.W.Frag} {mg : Str → Option Value} {F : Hp} {v u : V} {d e : D} (h : Rep K mg F v d) (f : d.flat = true) (h' : Rep K mg F u e) (f' : e.flat = true) : eqV v u = eqD d e := by
  cases h <;> cases h' <;> first | rfl | exact absurd f Bool.false_ne_true | exact absurd f' Bool.false_ne_true
theorem inV_D {K : PySem.W.Frag} {mg : Str → Option Value} {F : Hp} {v : V} {d : D} (h : Rep K mg F v d) (f : d.flat = true) : ∀ {vs : List V} {ds : List D}, Reps K mg F vs ds → ds.all D.flat = true → vs.all flatV = true ∧ inV v vs = inD d ds
  | _, _, .nil, _ => ⟨rfl, rfl⟩
  | w :: ws, e :: es, .cons h1 h2, g => by
    rw [List.all_cons, Bool.and_eq_true] at g
    obtain ⟨a, b⟩ := inV_D h f h2 g.2
    refine ⟨by rw [List.all_cons, flat_V h1 g.1, a]; rfl, ?_⟩
    have b : ws.any (fun y => eqV y v) = es.any (fun y => eqD y d) := b
    show (eqV w v || ws.any fun y => eqV y v) = (eqD e d || es.any fun y => eqD y d)
    rw [eqV_D h1 g.1 h f, b]
theorem flat_rt {K : PySem.W.Frag} {mg : Str → Option Value} {F H : Hp} {v : V} {d : D} (h : RT K mg F H v d) (f : d.flat = true) : Rep K mg F v d := by
  cases d <;> first | exact h | cases f
theorem in_serves (neg : Bool) {R : RO} (hR : ∀ d ds, R d (.lst ds) = (d.flat = true ∧ ds.all D.flat = true, .sh (.bl (if neg then !inD d ds else inD d ds))) ∧ R d (.tup ds) = (d.flat = true ∧ ds.all D.flat = true, .sh (.bl (if neg then !inD d ds else inD d ds))) ∧ R d (.frz ds) = (d.flat = true ∧ ds.all D.flat = true, .sh (.bl (if neg then !inD d ds else inD d ds))))
    (hN : ∀ d e, (∀ ds, e ≠ .lst ds) → (∀ ds, e ≠ .tup ds) → (∀ ds, e ≠ .frz ds) → ¬ (R d e).1) : Serves X (rIn X.K neg) R := by
  intro C F H σ env fp v u d e Q S hv hu c q
  have key : ∀ {a : Addr} {vs : List V} {ds : List D}, u = .ref a → (SqL X.K H a vs ∨ SqT X.K H a vs) → Reps X.K X.mg F vs ds → (d.flat = true ∧ ds.all D.flat = true) → EPost X C F σ Q (.sh (.bl (if neg then !inD d ds else inD d ds))) env → rIn X.K neg v u H Q := by
    intro a vs ds e1 h1 h2 h3 h4
    obtain ⟨z1, z2⟩ := inV_D (flat_rt hv h3.1) h3.1 h2 h3.2
    refine ⟨a, vs, e1, h1, flat_V (flat_rt hv h3.1) h3.1, z1, ?_⟩
    rw [z2]
    exact post_bl S h4
  cases e with
  | lst ds =>
    obtain ⟨a, vs, e1, h1, h2⟩ := hu
    rw [(hR d ds).1] at c q
    exact key e1 (.inl (SqL.of h1)) h2 c q
  | tup ds =>
    obtain ⟨a, vs, e1, h1, h2⟩ := rt_tup hu
    rw [(hR d ds).2.1] at c q
    exact key e1 (.inr (same_t S.fh h1)) h2 c q
  | frz ds =>
    obtain ⟨a, vs, e1, h1, h2⟩ := rt_frz hu
    rw [(hR d ds).2.2] at c q
    exact key e1 (.inl (S.fh.seq h1)) h2 c q
  | non => exact absurd c (hN d _ (fun _ z => by cases z) (fun _ z => by cases z) (fun _ z => by cases z))
  | bl b => exact absurd c (hN d _ (fun _ z => by cases z) (fun _ z => by cases z) (fun _ z => by cases z))
  | int b => exact absurd c (hN d _ (fun _ z => by cases z) (fun _ z => by cases z) (fun _ z => by cases z))
  | str b => exact absurd c (hN d _ (fun _ z => by cases z) (fun _ z => by cases z) (fun _ z => by cases z))
  | obj b c' d' => exact absurd c (hN d _ (fun _ z => by cases z) (fun _ z => by cases z) (fun _ z => by cases z))
theorem os_in : OpS X (compareOp .In) inR := serves op_in_seq (in_serves false (fun d ds => ⟨by cases d <;> rfl, by cases d <;> rfl, by cases d <;> rfl⟩) fun d e h1 h2 h3 c => by
  cases e <;> first | exact h1 _ rfl | exact h2 _ rfl | exact h3 _ rfl | (cases d <;> exact c))
theorem os_nin : OpS X (compareOp .NotIn) ninR := serves op_notIn_seq (in_serves true (fun d ds => ⟨by cases d <;> rfl, by cases d <;> rfl, by cases d <;> rfl⟩) fun d e h1 h2 h3 c => by
  cases e <;> first | exact h1 _ rfl | exact h2 _ rfl | exact h3 _ rfl | (cases d <;> exact c))

/-! ### one place -/
abbrev RO1 := D → Prop × Rv
def eOp1 (R : RO1) (a : DE) : DE where
  run env Q := a.run env fun x e1 => match look e1 x with
    | some d => (R d).1 ∧ Q (R d).2 e1
    | none => False
  mono env Q Q' h q := by
    refine a.mono _ _ _ (fun x e1 q => ?_) q
    split at q
    · exact ⟨q.1, h _ _ q.2⟩
    · exact q.elim
def Serves1 (X : Cx) (r : V → Hp → VK → Prop) (R : RO1) : Prop := ∀ C F H σ env fp v d (Q : VK), SR X.K X.mg C F H σ env fp → RT X.K X.mg F H v d → (R d).1 → EPost X C F σ Q (R d).2 env → r v H Q
theorem op1_down {R : RO1} {r : V → Hp → VK → Prop} {ta : DE} (hr : Serves1 X r R) {σ : L2.St} {H : Hp} {Q : VK} (q : LE X (eOp1 R ta) σ H Q) : LE X ta σ H fun v H1 => r v H1 Q := by
  obtain ⟨C, F, env, fp, S, q⟩ := q
  refine ⟨C, F, env, fp, S, ta.mono _ _ _ (fun x e1 q F1 H1 fp1 v S1 s1 r1 => ?_) q⟩
  split at q
  · rename_i d hd
    exact hr C F1 H1 σ e1 fp1 v d Q S1 (look_rt S1 r1 hd) q.1 (EPost.up q.2 s1)
  · exact q.elim
variable {a b c : Expr} {ta tb tc : DE} {pos : Pos}
def negR : RO1
  | .int i => (True, .sh (.int (-i)))
  | _ => (False, .sh .non)
theorem de_neg (ha : PE X a (LE X ta)) : PE X (.UnaryOp .USub a pos) (LE X (eOp1 negR ta)) :=
  pe_imp (pe_un un_neg ha) fun σ H Q q => op1_down (fun C F H σ env fp v d Q S hv c q => by
    cases d <;> first | exact (show False from c).elim | skip
    cases rt_int hv; exact ⟨_, rfl, post_int S q⟩) q

/-! ### chains -/
theorem chain_down {R R' : RO} {r r' : R2} (hr : Serves X r R) (hr' : Serves X r' R') {σ : L2.St} {H : Hp} {Q : VK} (q : LE X (eChain R R' ta tb tc) σ H Q) : tChain r r' (LE X ta) (LE X tb) (LE X tc) σ H Q := by
  obtain ⟨C, F, env, fp, S, q⟩ := q
  refine ⟨C, F, env, fp, S, ta.mono _ _ _ (fun x e1 q F1 H1 fp1 v S1 s1 r1 => ?_) q⟩
  obtain ⟨F1', S1', s1', r1'⟩ := hold_ok S1 r1
  refine ⟨C, F1', e1, fp1, S1', tb.mono _ _ _ (fun y e2 q F2 H2 fp2 u S2 s2 r2 => ?_) q⟩
  obtain ⟨F2', S2', s2', r2'⟩ := hold_ok S2 r2
  split at q
  · rename_i d e hd he
    obtain ⟨qc, q⟩ := q
    refine hr C F2' H2 σ e2 fp2 v u d e _ S2' (look_rt S2' (hold_up r1' (s2.trans s2')) hd) (look_rt S2' r2' he) qc ?_
    split at q
    · rename_i k hk
      rw [hk]
      intro F3 H3 fp3 w S3 s3 r3
      cases (show Rep X.K X.mg F3 w (.bl k) from r3)
      refine ⟨k, rfl, ?_⟩
      cases k with
      | false => exact q F3 H3 fp3 _ S3 ((((s1.trans s1').trans s2).trans s2').trans s3) (.bl false)
      | true =>
        refine ⟨C, F3, e2, fp3, S3, tc.mono _ _ _ (fun z e3 q F4 H4 fp4 w S4 s4 r4 => ?_) q⟩
        split at q
        · rename_i d' e' hd' he'
          exact hr' C F4 H4 σ e3 fp4 u w d' e' Q S4 (look_rt S4 (hold_up r2' (s3.trans s4)) hd') (look_rt S4 r4 he') q.1 (EPost.up q.2 (((((s1.trans s1').trans s2).trans s2').trans s3).trans s4))
        · exact q.elim
    · exact q.elim
  · exact q.elim
theorem de_chain {op op' : CmpOp} {R R' : RO} (ho : OpS X (compareOp op) R) (ho' : OpS X (compareOp op') R') (ha : PE X a (LE X ta)) (hb : PE X b (LE X tb)) (hc : PE X c (LE X tc))
    (hm : lastMarks [op, op'] [b, c] = false := by with_unfolding_all rfl) : PE X (.Compare a [op, op'] [b, c] pos) (LE X (eChain R R' ta tb tc)) := by
  obtain ⟨r, h1, h2⟩ := ho
  obtain ⟨r', h1', h2'⟩ := ho'
  exact pe_imp (pe_chain h1 h1' ha hb hc hm) fun σ H Q q => chain_down h2 h2' q
theorem dt_chain {op op' : CmpOp} {R R' : RO} (ho : OpS X (compareOp op) R) (ho' : OpS X (compareOp op') R') (ha : PE X a (LE X ta)) (hb : PE X b (LE X tb)) (hc : PE X c (LE X tc))
    (hm : lastMarks [op, op'] [b, c] = false := by with_unfolding_all rfl) : PT X (.Compare a [op, op'] [b, c] pos) (LT X (tB (eChain R R' ta tb tc))) := by
  obtain ⟨r, h1, h2⟩ := ho
  obtain ⟨r', h1', h2'⟩ := ho'
  exact pt_imp (pt_chain h1 h1' ha hb hc hm) fun σ H Q q => chain_down h2 h2' (lt_tB q)
end
end Dn

set_option Elab.async false
set_option linter.all false
set_option maxRecDepth 100000
set_option maxHeartbeats 4000000
/-! Dn, part 5: subscripts, slices, built-ins, calls of defs. -/
namespace Dn
open PySem PySem.Spec PyProof.Rows L2
section
variable {X : Cx} {a b c : Expr} {es : List Expr} {ta tb tc : DE} {tr : DA} {pos : Pos} {x : Str} {p : Pos}

/-! ### subscripts -/
def ixR : RO
  | .lst ds, .int i => ((atI ds i).isSome = true, .sh ((atI ds i).getD .non))
  | .tup ds, .int i => ((atI ds i).isSome = true, .sh ((atI ds i).getD .non))
  | .frz ds, .int i => ((atI ds i).isSome = true, .sh ((atI ds i).getD .non))
  | .str z, .int i => (z.length ≤ 1000000 ∧ (atI z.cps.toList i).isSome = true, .sh (.str ⟨#[(atI z.cps.toList i).getD 0]⟩))
  | _, _ => (False, .sh .non)
theorem reps_at {K : PySem.W.Frag} {mg : Str → Option Value} {F : Hp} {vs : List V} {ds : List D} {i : Int} (h : Reps K mg F vs ds) (c : (atI ds i).isSome = true) : ∃ v, atI vs i = some v ∧ Rep K mg F v ((atI ds i).getD .non) := by
  unfold atI at c ⊢
  rw [h.len]
  cases e : ixN ds.length i with
  | none => rw [e] at c; cases c
  | some j =>
    rw [e] at c
    have c : (ds[j]?).isSome = true := c
    cases ed : ds[j]? with
    | none => rw [ed] at c; cases c
    | some d =>
      obtain ⟨v, h1, h2⟩ := h.get ed
      exact ⟨v, h1, by show Rep K mg F v ((ds[j]?).getD .non); rw [ed]; exact h2⟩
theorem de_ix (ha : PE X a (LE X ta)) (hb : PE X b (LE X tb)) (hs : PlainIx b) : PE X (.Subscript a b pos) (LE X (eOp ixR ta tb)) :=
  pe_imp (pe_ix ix_seq ha hb hs) fun σ H Q q => op_down (fun C F H σ env fp v u d e Q S hv hu c q => by
    cases d <;> cases e <;> first | exact (show False from c).elim | skip
    · cases rt_str hv; cases rt_int hu
      obtain ⟨c1, c2⟩ := c
      obtain ⟨k, hk⟩ := Option.isSome_iff_exists.mp c2
      refine .inr (.inr ⟨_, _, k, rfl, rfl, lim_line c1, hk, ?_⟩)
      have q : EPost X C F σ Q (.sh (.str ⟨#[(atI _ _).getD 0]⟩)) env := q
      rw [hk] at q
      exact post_str S q
    · obtain ⟨p, vs, rfl, h1, h2⟩ := hv
      cases rt_int hu
      obtain ⟨w, e1, e2⟩ := reps_at h2 c
      exact .inl ⟨p, vs, _, w, rfl, rfl, SqL.of h1, e1, q F H fp w S (Same.refl F) e2⟩
    · obtain ⟨p, vs, rfl, h1, h2⟩ := rt_tup hv
      cases rt_int hu
      obtain ⟨w, e1, e2⟩ := reps_at h2 c
      exact .inr (.inl ⟨p, vs, _, w, rfl, rfl, same_t S.fh h1, e1, q F H fp w S (Same.refl F) e2⟩)
    · obtain ⟨p, vs, rfl, h1, h2⟩ := rt_frz hv
      cases rt_int hu
      obtain ⟨w, e1, e2⟩ := reps_at h2 c
      exact .inl ⟨p, vs, _, w, rfl, rfl, S.fh.seq h1, e1, q F H fp w S (Same.refl F) e2⟩) q

/-! ### slices -/
structure DO where
  run : En → (Option Int → En → Prop) → Prop
  mono : ∀ env (Q Q' : Option Int → En → Prop), (∀ r e, Q r e → Q' r e) → run env Q → run env Q'
def oNone : DO where
  run env Q := Q none env
  mono _ _ _ h q := h _ _ q
def oSome (t : DE) : DO where
  run env Q := t.run env fun r e => match r with
    | .sh (.int i) => Q (some i) e
    | _ => False
  mono env Q Q' h q := by
    refine t.mono _ _ _ (fun r e q => ?_) q
    split at q
    · exact h _ _ q
    · exact q.elim
def LO (X : Cx) (t : DO) : TO := fun σ H Q => ∃ C F env fp, SR X.K X.mg C F H σ env fp ∧ t.run env fun o env' => ∀ F' H' fp', SR X.K X.mg C F' H' σ env' fp' → Same F F' → Q o H'
theorem po_imp {o : Option Expr} {t t' : TO} (h : PO X o t) (m : ∀ σ H Q, t' σ H Q → t σ H Q) : PO X o t' := ⟨fun pins s σ H Q I q => h.run pins s σ H Q I (m σ H Q q)⟩
theorem do_none : PO X none (LO X oNone) := by
  refine po_imp po_none fun σ H Q q => ?_
  obtain ⟨C, F, env, fp, S, q⟩ := q
  exact q F H fp S (Same.refl F)
theorem do_some (ha : PE X a (LE X ta)) : PO X (some a) (LO X (oSome ta)) := by
  refine po_imp (po_some ha) fun σ H Q q => ?_
  obtain ⟨C, F, env, fp, S, q⟩ := q
  have q : ta.run env (fun r e => match r with
    | .sh (.int i) => ∀ F' H' fp', SR X.K X.mg C F' H' σ e fp' → Same F F' → Q (some i) H'
    | _ => False) := q
  refine ⟨C, F, env, fp, S, ta.mono _ _ _ (fun r e q F' H' fp' v S' s' rv => ?_) q⟩
  split at q
  · cases rv
    exact ⟨_, rfl, q F' H' fp' S' s'⟩
  · exact q.elim
def cutD {α : Type} (xs : List α) (lo hi : Option Int) : List α := (xs.drop (HT.sIx xs.length 0 lo)).take (HT.sIx xs.length xs.length hi - HT.sIx xs.length 0 lo)
def slR (d : D) (lo hi : Option Int) : Prop × Rv := match d with
  | .lst ds => (True, .fr (cutD ds lo hi))
  | .frz ds => (True, .fr (cutD ds lo hi))
  | .tup ds => (¬ (HT.sIx ds.length 0 lo = 0 ∧ HT.sIx ds.length ds.length hi = ds.length), .sh (.tup (cutD ds lo hi)))
  | .str z => (z.length ≤ 1000000, .sh (.str (cutS z lo hi)))
  | _ => (False, .sh .non)
theorem reps_cut {K : PySem.W.Frag} {mg : Str → Option Value} {F : Hp} {vs : List V} {ds : List D} (h : Reps K mg F vs ds) (lo hi : Option Int) : Reps K mg F (cutV vs lo hi) (cutD ds lo hi) := by
  unfold cutV cutD
  rw [h.len]
  exact (h.drop _).take _
def eSl (a : DE) (lo hi : DO) : DE where
  run env Q := a.run env fun x e1 => lo.run e1 fun l e2 => hi.run e2 fun u e3 => match look e3 (holdR x) with
    | some d => (slR d l u).1 ∧ Q (slR d l u).2 e3
    | none => False
  mono env Q Q' h q := by
    refine a.mono _ _ _ (fun x e1 q => ?_) q
    refine lo.mono _ _ _ (fun l e2 q => ?_) q
    refine hi.mono _ _ _ (fun u e3 q => ?_) q
    split at q
    · exact ⟨q.1, h _ _ q.2⟩
    · exact q.elim
theorem de_sl {lo hi : Option Expr} {tl th : DO} {p2 : Pos} (ha : PE X a (LE X ta)) (hl : PO X lo (LO X tl)) (hh : PO X hi (LO X th)) : PE X (.Subscript a (.Slice lo hi none p2) pos) (LE X (eSl ta tl th)) := by
  refine pe_imp (pe_slice (sl_list.or (sl_tup.or sl_str)) ha hl hh) fun σ H Q q => ?_
  obtain ⟨C, F, env, fp, S, q⟩ := q
  refine ⟨C, F, env, fp, S, ta.mono _ _ _ (fun r e1 q F1 H1 fp1 v S1 s1 r1 => ?_) q⟩
  obtain ⟨F1', S1', s1', r1'⟩ := hold_ok S1 r1
  refine ⟨C, F1', e1, fp1, S1', tl.mono _ _ _ (fun l e2 q F2 H2 fp2 S2 s2 => ?_) q⟩
  refine ⟨C, F2, e2, fp2, S2, th.mono _ _ _ (fun u e3 q F3 H3 fp3 S3 s3 => ?_) q⟩
  split at q
  · rename_i d hd
    have hv := look_rt S3 (hold_up r1' (s2.trans s3)) hd
    obtain ⟨c, q⟩ := q
    have q := EPost.up q (((s1.trans s1').trans s2).trans s3)
    cases d <;> first | exact (show False from c).elim | skip
    · cases rt_str hv
      exact .inr (.inr ⟨_, rfl, lim_line c, post_str S3 q⟩)
    · obtain ⟨p, vs, rfl, h1, h2⟩ := hv
      exact .inl ⟨p, vs, rfl, SqL.of h1, fun p' hp => post_fr S3 (reps_cut h2 l u) q hp⟩
    · obtain ⟨p, vs, rfl, h1, h2⟩ := rt_tup hv
      have c : ¬ (HT.sIx _ 0 l = 0 ∧ HT.sIx _ _ u = _) := c
      rw [← h2.len] at c
      exact .inr (.inl ⟨p, vs, rfl, same_t S3.fh h1, c, fun p' hp => post_tup S3 (reps_cut h2 l u) q hp⟩)
    · obtain ⟨p, vs, rfl, h1, h2⟩ := rt_frz hv
      exact .inl ⟨p, vs, rfl, S3.fh.seq h1, fun p' hp => post_fr S3 (reps_cut h2 l u) q hp⟩
  · exact q.elim

/-! ### built-ins -/
theorem de_b1 {id : String} {r : List V → Hp → VK → Prop} {R : RO1} (hc : CallR X (.builtin id) r) (hr : Serves1 X (fun v => r [v]) R) (hg : Gl X x) (hm : X.mg x = none) (hv : bootBuiltins x = some (.builtin id)) (ha : PE X a (LE X ta))
    (hn : x ≠ "__name__" := by decide) (hdb : (x == ("__debug__" : Str)) = false := by decide) (he : starEach [a] X.env = (false, eval a X.env) :: starEach [] X.env := by rfl) (hpl : (backTo pos (starEach [] X.env)).any (·.1) = false := by rfl) :
    PE X (.Call (.Name x p) [a] [] pos) (LE X (eOp1 R ta)) :=
  pe_imp (pe_callB hc hg hm hv (pa_cons ha pa_nil he) hn hdb he hpl) fun σ H Q q => op1_down hr q
theorem de_t1 {T : String} {r : List V → Hp → VK → Prop} {R : RO1} (hc : CallR X (.type T) r) (hr : Serves1 X (fun v => r [v]) R) (hg : Gl X x) (hm : X.mg x = none) (hv : bootBuiltins x = some (.type T)) (ha : PE X a (LE X ta))
    (hn : x ≠ "__name__" := by decide) (hdb : (x == ("__debug__" : Str)) = false := by decide) (he : starEach [a] X.env = (false, eval a X.env) :: starEach [] X.env := by rfl) (hpl : (backTo pos (starEach [] X.env)).any (·.1) = false := by rfl) :
    PE X (.Call (.Name x p) [a] [] pos) (LE X (eOp1 R ta)) :=
  pe_imp (pe_callTy hc hg hm hv (pa_cons ha pa_nil he) hn hdb he hpl) fun σ H Q q => op1_down hr q
theorem de_b2 {id : String} {r : List V → Hp → VK → Prop} {R : RO} (hc : CallR X (.builtin id) r) (hr : Serves X (fun v u => r [v, u]) R) (hg : Gl X x) (hm : X.mg x = none) (hv : bootBuiltins x = some (.builtin id)) (ha : PE X a (LE X ta)) (hb : PE X b (LE X tb))
    (hn : x ≠ "__name__" := by decide) (hdb : (x == ("__debug__" : Str)) = false := by decide) (he : starEach [a, b] X.env = (false, eval a X.env) :: starEach [b] X.env := by rfl) (he2 : starEach [b] X.env = (false, eval b X.env) :: starEach [] X.env := by rfl) (hpl : (backTo pos (starEach [b] X.env)).any (·.1) = false := by rfl) :
    PE X (.Call (.Name x p) [a, b] [] pos) (LE X (eOp R ta tb)) :=
  pe_imp (pe_callB hc hg hm hv (pa_cons ha (pa_cons hb pa_nil he2) he) hn hdb he hpl) fun σ H Q q => op_down hr q
def lenD : D → Nat
  | .lst ds => ds.length
  | .tup ds => ds.length
  | .frz ds => ds.length
  | .str x => x.length
  | _ => 0
def lenR : RO1
  | .lst ds => (True, .sh (.int ds.length))
  | .tup ds => (True, .sh (.int ds.length))
  | .frz ds => (True, .sh (.int ds.length))
  | .str z => (z.length ≤ 1000000, .sh (.int z.length))
  | _ => (False, .sh .non)
theorem sv_len : Serves1 X (fun v => (fun xs H Q => ∃ x n, xs = [x] ∧ LenV X.K x H n ∧ Q (.int n) H) [v]) lenR := fun C F H σ env fp v d Q S hv c q => by
  cases d <;> first | exact (show False from c).elim | skip
  · cases rt_str hv; exact ⟨_, _, rfl, ⟨lim_line c, rfl⟩, post_int S q⟩
  · obtain ⟨p, vs, rfl, h1, h2⟩ := hv
    exact ⟨_, _, rfl, .inl ⟨vs, SqL.of h1, h2.len.symm⟩, post_int S q⟩
  · obtain ⟨p, vs, rfl, h1, h2⟩ := rt_tup hv
    exact ⟨_, _, rfl, .inr ⟨vs, same_t S.fh h1, h2.len.symm⟩, post_int S q⟩
  · obtain ⟨p, vs, rfl, h1, h2⟩ := rt_frz hv
    exact ⟨_, _, rfl, .inl ⟨vs, S.fh.seq h1, h2.len.symm⟩, post_int S q⟩
theorem de_len (hg : Gl X "len") (hm : X.mg "len" = none) (ha : PE X a (LE X ta)) (he : starEach [a] X.env = (false, eval a X.env) :: starEach [] X.env := by rfl) (hpl : (backTo pos (starEach [] X.env)).any (·.1) = false := by rfl) :
    PE X (.Call (.Name "len" p) [a] [] pos) (LE X (eOp1 lenR ta)) := de_b1 call_len sv_len hg hm PySem.boot_len ha (by decide) (by decide) he hpl
def absR : RO1
  | .int i => (True, .sh (.int (if i < 0 then -i else i)))
  | _ => (False, .sh .non)
theorem de_abs (hg : Gl X "abs") (hm : X.mg "abs" = none) (ha : PE X a (LE X ta)) (he : starEach [a] X.env = (false, eval a X.env) :: starEach [] X.env := by rfl) (hpl : (backTo pos (starEach [] X.env)).any (·.1) = false := by rfl) :
    PE X (.Call (.Name "abs" p) [a] [] pos) (LE X (eOp1 absR ta)) := de_b1 call_abs (fun C F H σ env fp v d Q S hv c q => by
      cases d <;> first | exact (show False from c).elim | skip
      cases rt_int hv; exact ⟨_, rfl, post_int S q⟩) hg hm (by decide +kernel) ha (by decide) (by decide) he hpl
def intR : RO1
  | .int i => (True, .sh (.int i))
  | .bl k => (True, .sh (.int (if k then 1 else 0)))
  | _ => (False, .sh .non)
theorem de_tint (hg : Gl X "int") (hm : X.mg "int" = none) (ha : PE X a (LE X ta)) (he : starEach [a] X.env = (false, eval a X.env) :: starEach [] X.env := by rfl) (hpl : (backTo pos (starEach [] X.env)).any (·.1) = false := by rfl) :
    PE X (.Call (.Name "int" p) [a] [] pos) (LE X (eOp1 intR ta)) := de_t1 call_int1 (fun C F H σ env fp v d Q S hv c q => by
      cases d <;> first | exact (show False from c).elim | skip
      · cases rt_bl hv; exact .inr ⟨_, rfl, post_int S q⟩
      · cases rt_int hv; exact .inl ⟨_, rfl, post_int S q⟩) hg hm (by decide +kernel) ha (by decide) (by decide) he hpl
def boolR : RO1
  | .int i => (True, .sh (.bl (i != 0)))
  | .bl k => (True, .sh (.bl k))
  | _ => (False, .sh .non)
theorem de_tbool (hg : Gl X "bool") (hm : X.mg "bool" = none) (ha : PE X a (LE X ta)) (he : starEach [a] X.env = (false, eval a X.env) :: starEach [] X.env := by rfl) (hpl : (backTo pos (starEach [] X.env)).any (·.1) = false := by rfl) :
    PE X (.Call (.Name "bool" p) [a] [] pos) (LE X (eOp1 boolR ta)) := de_t1 call_bool1 (fun C F H σ env fp v d Q S hv c q => by
      cases d <;> first | exact (show False from c).elim | skip
      · cases rt_bl hv; exact .inr ⟨_, rfl, post_bl S q⟩
      · cases rt_int hv; exact .inl ⟨_, rfl, post_bl S q⟩) hg hm (by decide +kernel) ha (by decide) (by decide) he hpl
def strR : RO1
  | .int i => (i.natAbs.log2 < 1920, .sh (.str (toString i)))
  | _ => (False, .sh .non)
theorem de_tstr (hg : Gl X "str") (hm : X.mg "str" = none) (ha : PE X a (LE X ta)) (he : starEach [a] X.env = (false, eval a X.env) :: starEach [] X.env := by rfl) (hpl : (backTo pos (starEach [] X.env)).any (·.1) = false := by rfl) :
    PE X (.Call (.Name "str" p) [a] [] pos) (LE X (eOp1 strR ta)) := de_t1 call_str_int (fun C F H σ env fp v d Q S hv c q => by
      cases d <;> first | exact (show False from c).elim | skip
      cases rt_int hv; exact ⟨_, rfl, c, post_str S q⟩) hg hm (by decide +kernel) ha (by decide) (by decide) he hpl
def listR : RO1
  | .lst ds => (True, .fr ds)
  | .tup ds => (True, .fr ds)
  | .frz ds => (True, .fr ds)
  | _ => (False, .sh .non)
theorem de_tlist (hg : Gl X "list") (hm : X.mg "list" = none) (ha : PE X a (LE X ta)) (he : starEach [a] X.env = (false, eval a X.env) :: starEach [] X.env := by rfl) (hpl : (backTo pos (starEach [] X.env)).any (·.1) = false := by rfl) :
    PE X (.Call (.Name "list" p) [a] [] pos) (LE X (eOp1 listR ta)) := de_t1 call_list_of (fun C F H σ env fp v d Q S hv c q => by
      cases d <;> first | exact (show False from c).elim | skip
      · obtain ⟨p, vs, rfl, h1, h2⟩ := hv
        exact ⟨p, vs, rfl, .inl (SqL.of h1), fun l hl => post_fr S h2 q hl⟩
      · obtain ⟨p, vs, rfl, h1, h2⟩ := rt_tup hv
        exact ⟨p, vs, rfl, .inr (same_t S.fh h1), fun l hl => post_fr S h2 q hl⟩
      · obtain ⟨p, vs, rfl, h1, h2⟩ := rt_frz hv
        exact ⟨p, vs, rfl, .inl (S.fh.seq h1), fun l hl => post_fr S h2 q hl⟩) hg hm (by decide +kernel) ha (by decide) (by decide) he hpl
def tupleR : RO1
  | .lst ds => (True, .sh (.tup ds))
  | .tup ds => (True, .sh (.tup ds))
  | .frz ds => (True, .sh (.tup ds))
  | _ => (False, .sh .non)
theorem de_ttuple (hg : Gl X "tuple") (hm : X.mg "tuple" = none) (ha : PE X a (LE X ta)) (he : starEach [a] X.env = (false, eval a X.env) :: starEach [] X.env := by rfl) (hpl : (backTo pos (starEach [] X.env)).any (·.1) = false := by rfl) :
    PE X (.Call (.Name "tuple" p) [a] [] pos) (LE X (eOp1 tupleR ta)) := de_t1 call_tuple_of (fun C F H σ env fp v d Q S hv c q => by
      cases d <;> first | exact (show False from c).elim | skip
      · obtain ⟨p, vs, rfl, h1, h2⟩ := hv
        exact ⟨p, vs, rfl, .inl ⟨SqL.of h1, fun l hl => post_tup S h2 q hl⟩⟩
      · obtain ⟨p, vs, rfl, h1, h2⟩ := rt_tup hv
        exact ⟨p, vs, rfl, .inr ⟨same_t S.fh h1, q F H fp _ S (Same.refl F) (.tup h1 h2)⟩⟩
      · obtain ⟨p, vs, rfl, h1, h2⟩ := rt_frz hv
        exact ⟨p, vs, rfl, .inl ⟨S.fh.seq h1, fun l hl => post_tup S h2 q hl⟩⟩) hg hm (by decide +kernel) ha (by decide) (by decide) he hpl
def max2R : RO
  | .int i, .int j => (True, .sh (.int (if j > i then j else i)))
  | _, _ => (False, .sh .non)
def min2R : RO
  | .int i, .int j => (True, .sh (.int (if j < i then j else i)))
  | _, _ => (False, .sh .non)
theorem de_max2 (hc : X.calm = true) (hg : Gl X "max") (hm : X.mg "max" = none) (ha : PE X a (LE X ta)) (hb : PE X b (LE X tb)) (he : starEach [a, b] X.env = (false, eval a X.env) :: starEach [b] X.env := by rfl) (he2 : starEach [b] X.env = (false, eval b X.env) :: starEach [] X.env := by rfl) (hpl : (backTo pos (starEach [b] X.env)).any (·.1) = false := by rfl) :
    PE X (.Call (.Name "max" p) [a, b] [] pos) (LE X (eOp max2R ta tb)) := de_b2 (call_max2 hc) (fun C F H σ env fp v u d e Q S hv hu c q => by
      cases d <;> cases e <;> first | exact (show False from c).elim | skip
      cases rt_int hv; cases rt_int hu; exact ⟨_, _, rfl, post_int S q⟩) hg hm (by decide +kernel) ha hb (by decide) (by decide) he he2 hpl
theorem de_min2 (hc : X.calm = true) (hg : Gl X "min") (hm : X.mg "min" = none) (ha : PE X a (LE X ta)) (hb : PE X b (LE X tb)) (he : starEach [a, b] X.env = (false, eval a X.env) :: starEach [b] X.env := by rfl) (he2 : starEach [b] X.env = (false, eval b X.env) :: starEach [] X.env := by rfl) (hpl : (backTo pos (starEach [b] X.env)).any (·.1) = false := by rfl) :
    PE X (.Call (.Name "min" p) [a, b] [] pos) (LE X (eOp min2R ta tb)) := de_b2 (call_min2 hc) (fun C F H σ env fp v u d e Q S hv hu c q => by
      cases d <;> cases e <;> first | exact (show False from c).elim | skip
      cases rt_int hv; cases rt_int hu; exact ⟨_, _, rfl, post_int S q⟩) hg hm (by decide +kernel) ha hb (by decide) (by decide) he he2 hpl
/-! sum, max, min of a list of ints: asked of the ints -/
def intsOf : List D → Option (List Int)
  | [] => some []
  | .int i :: ds => (intsOf ds).map (i :: ·)
  | _ => none
theorem intsOf_map (ns : List Int) : intsOf (ns.map D.int) = some ns := by
  induction ns with
  | nil => rfl
  | cons n ns ih => show (intsOf (ns.map D.int)).map (n :: ·) = _; rw [ih]; rfl
theorem intsOf_eq : ∀ {ds : List D} {ns : List Int}, intsOf ds = some ns → ds = ns.map D.int
  | [], ns, h => by cases h; rfl
  | d :: ds, ns, h => by
    cases d <;> first | (cases h; done) | skip
    rename_i i
    have h : (intsOf ds).map (i :: ·) = some ns := h
    cases e : intsOf ds with
    | none => rw [e] at h; cases h
    | some ms =>
      rw [e] at h
      cases h
      rw [intsOf_eq e]; rfl
def sumR : RO1
  | .lst ds => match intsOf ds with
    | some ns => (True, .sh (.int ns.sum))
    | none => (False, .sh .non)
  | _ => (False, .sh .non)
theorem de_sum (hc : X.calm = true) (hg : Gl X "sum") (hm : X.mg "sum" = none) (ha : PE X a (LE X ta)) (he : starEach [a] X.env = (false, eval a X.env) :: starEach [] X.env := by rfl) (hpl : (backTo pos (starEach [] X.env)).any (·.1) = false := by rfl) :
    PE X (.Call (.Name "sum" p) [a] [] pos) (LE X (eOp1 sumR ta)) := de_b1 (cr_sum hc) (fun C F H σ env fp v d Q S hv c q => by
      cases d <;> first | exact (show False from c).elim | skip
      rename_i ds
      obtain ⟨p, vs, rfl, h1, h2⟩ := hv
      cases e : intsOf ds with
      | none => simp only [sumR, e] at c
      | some ns =>
        simp only [sumR, e] at q
        have e2 := intsOf_eq e
        subst e2
        cases h2.ints
        exact ⟨p, ns, rfl, SqL.of h1, post_int S q⟩) hg hm (by decide +kernel) ha (by decide) (by decide) he hpl
def maxD : List Int → Int
  | [] => 0
  | n :: ns => ns.foldl max n
def minD : List Int → Int
  | [] => 0
  | n :: ns => ns.foldl min n
theorem fold_max : ∀ (ns : List Int) (n : Int), n ≤ ns.foldl max n ∧ (∀ y ∈ ns, y ≤ ns.foldl max n) ∧ (ns.foldl max n = n ∨ ns.foldl max n ∈ ns)
  | [], n => ⟨Int.le_refl _, (fun _ h => by cases h), .inl rfl⟩
  | m :: ns, n => by
    obtain ⟨h1, h2, h3⟩ := fold_max ns (max n m)
    refine ⟨by show n ≤ ns.foldl max (max n m); omega, fun y hy => ?_, ?_⟩
    · show y ≤ ns.foldl max (max n m)
      rcases List.mem_cons.mp hy with rfl | hy
      · omega
      · exact h2 y hy
    · show ns.foldl max (max n m) = n ∨ ns.foldl max (max n m) ∈ m :: ns
      rcases h3 with h3 | h3
      · rw [h3]
        rcases Int.le_total n m with z | z
        · right; rw [show max n m = m by omega]; simp
        · left; omega
      · right; exact List.mem_cons_of_mem _ h3
theorem fold_min : ∀ (ns : List Int) (n : Int), ns.foldl min n ≤ n ∧ (∀ y ∈ ns, ns.foldl min n ≤ y) ∧ (ns.foldl min n = n ∨ ns.foldl min n ∈ ns)
  | [], n => ⟨Int.le_refl _, (fun _ h => by cases h), .inl rfl⟩
  | m :: ns, n => by
    obtain ⟨h1, h2, h3⟩ := fold_min ns (min n m)
    refine ⟨by show ns.foldl min (min n m) ≤ n; omega, fun y hy => ?_, ?_⟩
    · show ns.foldl min (min n m) ≤ y
      rcases List.mem_cons.mp hy with rfl | hy
      · omega
      · exact h2 y hy
    · show ns.foldl min (min n m) = n ∨ ns.foldl min (min n m) ∈ m :: ns
      rcases h3 with h3 | h3
      · rw [h3]
        rcases Int.le_total n m with z | z
        · left; omega
        · right; rw [show min n m = m by omega]; simp
      · right; exact List.mem_cons_of_mem _ h3
theorem maxD_ok {ns : List Int} (h : 0 < ns.length) : maxD ns ∈ ns ∧ ∀ y ∈ ns, y ≤ maxD ns := by
  cases ns with
  | nil => simp at h
  | cons n ns =>
    obtain ⟨h1, h2, h3⟩ := fold_max ns n
    refine ⟨?_, fun y hy => ?_⟩
    · rcases h3 with h3 | h3
      · show ns.foldl max n ∈ n :: ns; rw [h3]; simp
      · exact List.mem_cons_of_mem _ h3
    · rcases List.mem_cons.mp hy with rfl | hy
      · exact h1
      · exact h2 y hy
theorem minD_ok {ns : List Int} (h : 0 < ns.length) : minD ns ∈ ns ∧ ∀ y ∈ ns, minD ns ≤ y := by
  cases ns with
  | nil => simp at h
  | cons n ns =>
    obtain ⟨h1, h2, h3⟩ := fold_min ns n
    refine ⟨?_, fun y hy => ?_⟩
    · rcases h3 with h3 | h3
      · show ns.foldl min n ∈ n :: ns; rw [h3]; simp
      · exact List.mem_cons_of_mem _ h3
    · rcases List.mem_cons.mp hy with rfl | hy
      · exact h1
      · exact h2 y hy
def maxR : RO1
  | .lst ds => match intsOf ds with
    | some ns => (0 < ns.length, .sh (.int (maxD ns)))
    | none => (False, .sh .non)
  | _ => (False, .sh .non)
def minR : RO1
  | .lst ds => match intsOf ds with
    | some ns => (0 < ns.length, .sh (.int (minD ns)))
    | none => (False, .sh .non)
  | _ => (False, .sh .non)
theorem de_max (hc : X.calm = true) (hg : Gl X "max") (hm : X.mg "max" = none) (ha : PE X a (LE X ta)) (he : starEach [a] X.env = (false, eval a X.env) :: starEach [] X.env := by rfl) (hpl : (backTo pos (starEach [] X.env)).any (·.1) = false := by rfl) :
    PE X (.Call (.Name "max" p) [a] [] pos) (LE X (eOp1 maxR ta)) := de_b1 (cr_max hc) (fun C F H σ env fp v d Q S hv c q => by
      cases d <;> first | exact (show False from c).elim | skip
      rename_i ds
      obtain ⟨p, vs, rfl, h1, h2⟩ := hv
      cases e : intsOf ds with
      | none => simp only [maxR, e] at c
      | some ns =>
        simp only [maxR, e] at q c
        have e2 := intsOf_eq e
        subst e2
        cases h2.ints
        obtain ⟨z1, z2⟩ := maxD_ok c
        refine ⟨p, ns, rfl, SqL.of h1, c, fun m hm hy => ?_⟩
        have e3 : m = maxD ns := Int.le_antisymm (z2 m hm) (hy _ z1)
        subst e3
        exact post_int S q) hg hm (by decide +kernel) ha (by decide) (by decide) he hpl
theorem de_min (hc : X.calm = true) (hg : Gl X "min") (hm : X.mg "min" = none) (ha : PE X a (LE X ta)) (he : starEach [a] X.env = (false, eval a X.env) :: starEach [] X.env := by rfl) (hpl : (backTo pos (starEach [] X.env)).any (·.1) = false := by rfl) :
    PE X (.Call (.Name "min" p) [a] [] pos) (LE X (eOp1 minR ta)) := de_b1 (cr_min hc) (fun C F H σ env fp v d Q S hv c q => by
      cases d <;> first | exact (show False from c).elim | skip
      rename_i ds
      obtain ⟨p, vs, rfl, h1, h2⟩ := hv
      cases e : intsOf ds with
      | none => simp only [minR, e] at c
      | some ns =>
        simp only [minR, e] at q c
        have e2 := intsOf_eq e
        subst e2
        cases h2.ints
        obtain ⟨z1, z2⟩ := minD_ok c
        refine ⟨p, ns, rfl, SqL.of h1, c, fun m hm hy => ?_⟩
        have e3 : m = minD ns := Int.le_antisymm (hy _ z1) (z2 m hm)
        subst e3
        exact post_int S q) hg hm (by decide +kernel) ha (by decide) (by decide) he hpl

/-! ### isinstance with one written built-in class -/
inductive Ty5 where
  | int | bool | str | list | tuple
def Ty5.nm : Ty5 → String
  | .int => "int" | .bool => "bool" | .str => "str" | .list => "list" | .tuple => "tuple"
def isiR (T : Ty5) : RO1
  | .non => (True, .sh (.bl false))
  | .bl _ => (True, .sh (.bl (match T with | .bool => true | .int => true | _ => false)))
  | .int _ => (True, .sh (.bl (match T with | .int => true | _ => false)))
  | .str _ => (True, .sh (.bl (match T with | .str => true | _ => false)))
  | .lst _ => (True, .sh (.bl (match T with | .list => true | _ => false)))
  | .tup _ => (True, .sh (.bl (match T with | .tuple => true | _ => false)))
  | _ => (False, .sh .non)
theorem tyx_tup {K : PySem.W.Frag} {H : Hp} {a : Addr} {vs : List V} (h : SqT K H a vs) : TyX K H (.ref a) (.type "tuple") := by
  rcases h with (h | ⟨o, h⟩) | ⟨o, its, n, h1, h2, _⟩
  · exact .base (.tup h)
  · exact .fTuple h
  · exact .kTuple h1 h2
theorem de_isi (T : Ty5) {y : Str} {p2 : Pos} (hg : Gl X "isinstance") (hm : X.mg "isinstance" = none) (ha : PE X a (LE X ta)) (hy : PE X (.Name y p2) (tC (.ty T.nm)))
    (he : starEach [a, .Name y p2] X.env = (false, eval a X.env) :: starEach [.Name y p2] X.env := by rfl) (he2 : starEach [.Name y p2] X.env = (false, eval (.Name y p2) X.env) :: starEach [] X.env := by rfl) (hpl : (backTo pos (starEach [.Name y p2] X.env)).any (·.1) = false := by rfl) :
    PE X (.Call (.Name "isinstance" p) [a, .Name y p2] [] pos) (LE X (eOp1 (isiR T) ta)) := by
  refine pe_imp (pe_callB call_isi hg hm (by decide +kernel) (pa_cons ha (pa_cons hy pa_nil he2) he) (by decide) (by decide) he hpl) fun σ H Q q => ?_
  refine op1_down (r := fun v H Q => rIsi X.K [v, .ty T.nm] H Q) (fun C F H σ env fp v d Q S hv c q => ?_) q
  cases d <;> first | exact (show False from c).elim | skip
  · cases rt_non hv; refine ⟨_, _, _, _, false, rfl, .ty _, .base .non, ?_, post_bl S q⟩
    cases T <;> exact kit_ty (by decide +kernel)
  · cases rt_bl hv; refine ⟨_, _, _, _, _, rfl, .ty _, .base (.bl _), ?_, post_bl S q⟩
    cases T <;> exact kit_ty (by decide +kernel)
  · cases rt_int hv; refine ⟨_, _, _, _, _, rfl, .ty _, .base (.int _), ?_, post_bl S q⟩
    cases T <;> exact kit_ty (by decide +kernel)
  · cases rt_str hv; refine ⟨_, _, _, _, _, rfl, .ty _, .base (.str _), ?_, post_bl S q⟩
    cases T <;> exact kit_ty (by decide +kernel)
  · obtain ⟨p, vs, rfl, h1, h2⟩ := hv
    refine ⟨_, _, _, _, _, rfl, .ty _, .base (.lst h1), ?_, post_bl S q⟩
    cases T <;> exact kit_ty (by decide +kernel)
  · obtain ⟨p, vs, rfl, h1, h2⟩ := rt_tup hv
    refine ⟨_, _, _, _, _, rfl, .ty _, tyx_tup (same_t S.fh h1), ?_, post_bl S q⟩
    cases T <;> exact kit_ty (by decide +kernel)

/-! ### what defs promise -/
/-- a def over data: arguments, what it asks, what it gives -/
structure Spec where
  A : Type
  args : A → List D
  pre : A → Prop
  post : A → Rv → Prop
/-- a def whose first argument is a list that it changes -/
structure SpecS where
  A : Type
  st : A → List D
  args : A → List D
  pre : A → Prop
  post : A → Rv → List D → Prop
def Spec.run (s : Spec) (ds : List D) (Q : Rv → Prop) : Prop := ∃ x, ds = s.args x ∧ s.pre x ∧ ∀ r, s.post x r → Q r
def SpecS.run (s : SpecS) (xs ds : List D) (Q : Rv → List D → Prop) : Prop := ∃ x, xs = s.st x ∧ ds = s.args x ∧ s.pre x ∧ ∀ r ys, s.post x r ys → Q r ys
/-- a def's answer, in the heap H' behind it, H the heap ahead of it -/
def RvR (K : PySem.W.Frag) (mg : Str → Option Value) (F' H H' : Hp) (v : V) : Rv → Prop
  | .sh d => Rep K mg F' v d
  | .fr ds => ∃ p vs, v = .ref p ∧ H p = none ∧ F' p = none ∧ H' p = some (.lst vs) ∧ Reps K mg F' vs ds
  | .bo _ => False
def spOf (K : PySem.W.Frag) (mg : Str → Option Value) (s : Spec) : Sp := fun vs H Q _ => ∃ F ds, Same F H ∧ Reps K mg F vs ds ∧ s.run ds fun r =>
  ∀ F' H' v, Same H H' → Same F F' → Same F' H' → (∀ a, F' a ≠ none → F a ≠ none ∨ H a = none) → RvR K mg F' H H' v r → Q v H'
def spOfS (K : PySem.W.Frag) (mg : Str → Option Value) (s : SpecS) : Sp := fun vs H Q _ => ∃ F ds p us ws xs, vs = .ref p :: us ∧ Same F H ∧ F p = none ∧ H p = some (.lst ws) ∧ Reps K mg F ws xs ∧ Reps K mg F us ds ∧ s.run xs ds fun r ys =>
  ∀ F' H' v ws', (∀ a o, a ≠ p → H a = some o → H' a = some o) → Same F F' → Same F' H' → (∀ a, F' a ≠ none → F a ≠ none ∨ H a = none) → H' p = some (.lst ws') → Reps K mg F' ws' ys → RvR K mg F' H H' v r → Q v H'
def eCall (s : Spec) (as : DA) : DE where
  run env Q := as.run env fun ds e1 => s.run ds fun r => Q r e1
  mono env Q Q' h q := by
    refine as.mono _ _ _ (fun ds e1 q => ?_) q
    obtain ⟨x, h1, h2, h3⟩ := q
    exact ⟨x, h1, h2, fun r hr => h _ _ (h3 r hr)⟩
theorem call_down {s : Spec} {E : XK} {σ : L2.St} {H : Hp} {Q : VK} (q : LE X (eCall s tr) σ H Q) : tCall (spOf X.K X.mg s) [] E (LA X tr) σ H Q := by
  obtain ⟨C, F, env, fp, S, q⟩ := q
  refine ⟨C, F, env, fp, S, tr.mono _ _ _ (fun ds e1 q F1 H1 fp1 vs S1 s1 r1 => ?_) q⟩
  obtain ⟨y, h1, h2, h3⟩ := q
  refine ⟨F1, ds, S1.fh, by rw [List.append_nil]; exact r1, y, h1, h2, fun r hr F' H' v hh ff fh fn rv => ?_⟩
  have q := h3 r hr
  have S2 := S1.grow hh ff fh fn
  cases r with
  | sh d => exact q F' H' fp1 v S2 (s1.trans ff) rv
  | bo i => exact (show False from rv).elim
  | fr zs =>
    obtain ⟨p, ws, rfl, a, b, c, d⟩ := rv
    obtain ⟨f1, f2, f3, f4, f5⟩ := S1.fresh a
    exact q F' H' fp1 _ S2 (s1.trans ff) ⟨p, ws, rfl, b, f2, c, d, f4, f5⟩
theorem de_call {k : Nat} {f : Addr} {fd : FuncData} {ps : List Str} {s : Spec} (Fn : FnOk X.prog X.w X.K X.mg X.base CX0 k f fd ps (spOf X.K X.mg s)) (hr : Room k X.A) (hg : Gl X x) (hm : X.mg x = some (.ref f)) (hk : PySem.W.keepIn X.K (.ref f) = true) (hb : Binds X.K fd ps [])
    (ha : PA X (a :: es) (LA X tr)) (hdb : (x == ("__debug__" : Str)) = false := by decide) (he : starEach (a :: es) X.env = (false, eval a X.env) :: starEach es X.env := by rfl) (hpl : (backTo pos (starEach es X.env)).any (·.1) = false := by rfl) :
    PE X (.Call (.Name x p) (a :: es) [] pos) (LE X (eCall s tr)) :=
  pe_imp (pe_call Fn hr hg hm hk hb .nil pass0 ha hdb he hpl) fun σ H Q q => call_down q
/-- the list that a slot holds as its own -/
def ownAt (env : En) (i : Nat) : Option (List D) := match env[i]? with
  | some (.ow xs) => some xs
  | some (.io xs) => some xs
  | _ => none
def putAt (env : En) (i : Nat) (ys : List D) : En := match env[i]? with
  | some (.ow _) => env.set i (.ow ys)
  | some (.io _) => env.set i (.io ys)
  | _ => env
theorem ownAt_sl {env : En} {i : Nat} {xs : List D} (h : ownAt env i = some xs) : ∃ s, env[i]? = some s ∧ s.own = some xs ∧ ∀ ys, putAt env i ys = env.set i (s.with ys) := by
  unfold ownAt at h
  cases e : env[i]? with
  | none => simp only [e] at h; cases h
  | some s =>
    simp only [e] at h
    cases s with
    | no => cases h
    | sh d => cases h
    | ow zs => cases h; exact ⟨_, rfl, rfl, fun ys => by unfold putAt; rw [e]; rfl⟩
    | io zs => cases h; exact ⟨_, rfl, rfl, fun ys => by unfold putAt; rw [e]; rfl⟩
/-- f(state, ..), state in slot i -/
def eCallS (s : SpecS) (i : Nat) (as : DA) : DE where
  run env Q := (ownAt env i).isSome = true ∧ as.run env fun ds e1 => match ownAt e1 i with
    | some xs => s.run xs ds fun r ys => Q r (putAt e1 i ys)
    | none => False
  mono env Q Q' h q := by
    refine ⟨q.1, as.mono _ _ _ (fun ds e1 q => ?_) q.2⟩
    split at q
    · obtain ⟨x, h1, h2, h3, h4⟩ := q
      exact ⟨x, h1, h2, h3, fun r ys hr => h _ _ (h4 r ys hr)⟩
    · exact q.elim
theorem upd_self {H : Hp} {p : Addr} {o : HO} (h : H p = some o) : upd H p o = H := by
  funext a
  by_cases e : a = p
  · subst e; rw [upd_same, h]
  · rw [upd_ne e]
theorem SR.changed {K : PySem.W.Frag} {mg : Str → Option Value} {C : Cn} {F F' H H' : Hp} {σ : L2.St} {env : En} {fp : Nat → List Addr} (S : SR K mg C F H σ env fp) {i : Nat} {s : Sl} {xs ys : List D} {p : Addr} {ws : List V} (h : env[i]? = some s) (ho : s.own = some xs) (hp : σ[i]? = some (some (.ref p)))
    (hh : ∀ a o, a ≠ p → H a = some o → H' a = some o) (ff : Same F F') (fh : Same F' H') (fn : ∀ a, F' a ≠ none → F a ≠ none ∨ H a = none) (hp' : H' p = some (.lst ws)) (r : Reps K mg F' ws ys) : SR K mg C F' H' σ (env.set i (s.with ys)) fp := by
  obtain ⟨p', vs, a, b, c, d⟩ := S.ownAt h ho
  have e : p' = p := by rw [b] at hp; cases hp; rfl
  subst e
  obtain ⟨o1, o2, o3⟩ := S.out i p' (by rw [a]; simp)
  have f1 : F' p' = none := by
    cases e : F' p' with
    | none => rfl
    | some o => exact ((fn p' (none_of_ne e)).elim (fun q => q o1) fun q => o2 q).elim
  have S1 : SR K mg C F' (upd H' p' (.lst vs)) σ env fp := S.grow (fun x o hx => by
    by_cases e : x = p'
    · subst e; rw [upd_same, ← hx, c]
    · rw [upd_ne e]; exact hh x o e hx) ff (fun x o hx => by rw [upd_ne (ne_of_none hx f1)]; exact fh x o hx) fn
  have S2 := S1.write (ys := ys) h ho hp r
  rw [upd_upd, upd_self hp'] at S2
  exact S2
/-- the first argument: the list in slot i -/
theorem callS_down {s : SpecS} {i : Nat} {E : XK} {σ : L2.St} {H : Hp} {Q : VK} (q : LE X (eCallS s i tr) σ H Q) : tCall (spOfS X.K X.mg s) [] E (tCons (tVar i) (LA X tr)) σ H Q := by
  obtain ⟨C, F, env, fp, S, q0, q⟩ := q
  obtain ⟨xs0, h0⟩ := Option.isSome_iff_exists.mp q0
  obtain ⟨s0, a0, b0, _⟩ := ownAt_sl h0
  obtain ⟨p, ws0, z0, hp, c0, d0⟩ := S.ownAt a0 b0
  refine ⟨.ref p, hp, ?_⟩
  refine ⟨C, F, env, fp, S, tr.mono _ _ _ (fun ds e1 q F1 H1 fp1 vs S1 s1 r1 => ?_) q⟩
  split at q
  · rename_i xs hxs
    obtain ⟨sl, hsl, ho, hput⟩ := ownAt_sl hxs
    obtain ⟨y, h0, h1, h2, h3⟩ := q
    obtain ⟨p', ws, z, hp', c, d⟩ := S1.ownAt hsl ho
    rw [hp] at hp'
    cases hp'
    obtain ⟨o1, o2, o3⟩ := S1.out i p (by rw [z]; simp)
    refine ⟨F1, ds, p, vs, ws, xs, by rw [List.append_nil], S1.fh, o1, c, d, r1, y, h0, h1, h2, fun r ys hr F' H' v ws' hh ff fh fn hp2 rr rv => ?_⟩
    have q := h3 r ys hr
    have S2 := S1.changed hsl ho hp hh ff fh fn hp2 rr
    rw [← hput] at S2
    cases r with
    | sh d => exact q F' H' fp1 v S2 (s1.trans ff) rv
    | bo i => exact (show False from rv).elim
    | fr zs =>
      obtain ⟨p2, ws2, rfl, a2, b2, c2, d2⟩ := rv
      obtain ⟨f1, f2, f3, f4, f5⟩ := S1.fresh a2
      exact q F' H' fp1 _ S2 (s1.trans ff) ⟨p2, ws2, rfl, b2, f2, c2, d2, f4, f5⟩
  · exact q.elim
theorem de_callS {k i : Nat} {f : Addr} {fd : FuncData} {ps : List Str} {s : SpecS} (Fn : FnOk X.prog X.w X.K X.mg X.base CX0 k f fd ps (spOfS X.K X.mg s)) (hr : Room k X.A) (hg : Gl X x) (hm : X.mg x = some (.ref f)) (hk : PySem.W.keepIn X.K (.ref f) = true) (hb : Binds X.K fd ps [])
    (h0 : PE X a (tVar i)) (ha : PA X es (LA X tr)) (hdb : (x == ("__debug__" : Str)) = false := by decide) (he : starEach (a :: es) X.env = (false, eval a X.env) :: starEach es X.env := by rfl) (hpl : (backTo pos (starEach es X.env)).any (·.1) = false := by rfl) :
    PE X (.Call (.Name x p) (a :: es) [] pos) (LE X (eCallS s i tr)) :=
  pe_imp (pe_call Fn hr hg hm hk hb .nil pass0 (pa_cons h0 ha he) hdb he hpl) fun σ H Q q => callS_down q
end
end Dn

set_option Elab.async false
set_option linter.all false
set_option maxRecDepth 100000
set_option maxHeartbeats 4000000
/-! Dn, part 6: statements, targets, loops, comprehensions. -/
namespace Dn
open PySem PySem.Spec PyProof.Rows L2

structure DEnds where
  nx : En → Prop
  rt : Rv → En → Prop
  bk : En → Prop
  ct : En → Prop
structure DEnds.Le (D D' : DEnds) : Prop where
  nx : ∀ e, D.nx e → D'.nx e
  rt : ∀ r e, D.rt r e → D'.rt r e
  bk : ∀ e, D.bk e → D'.bk e
  ct : ∀ e, D.ct e → D'.ct e
theorem DEnds.Le.withNx {D D' : DEnds} (h : D.Le D') {a b : En → Prop} (k : ∀ e, a e → b e) : DEnds.Le { D with nx := a } { D' with nx := b } := ⟨k, h.rt, h.bk, h.ct⟩
structure DS where
  run : DEnds → En → Prop
  mono : ∀ (D D' : DEnds) env, D.Le D' → run D env → run D' env
theorem DS.to (t : DS) {D D' : DEnds} {env : En} (q : t.run D env) (h : D.Le D') : t.run D' env := t.mono D D' env h q
def upE (X : Cx) (C : Cn) (F : Hp) (D : Ends) : DEnds where
  nx env' := ∀ F' H' σ' fp', SR X.K X.mg C F' H' σ' env' fp' → Same F F' → D.nx σ' H'
  rt r env' := ∀ F' H' σ' fp' v, SR X.K X.mg C F' H' σ' env' fp' → Same F F' → VR X.K X.mg C F' H' σ' fp' v r → D.rt v H'
  bk env' := ∀ F' H' σ' fp', SR X.K X.mg C F' H' σ' env' fp' → Same F F' → D.bk σ' H'
  ct env' := ∀ F' H' σ' fp', SR X.K X.mg C F' H' σ' env' fp' → Same F F' → D.ct σ' H'
theorem upE_le {X : Cx} {C : Cn} {F F' : Hp} {D : Ends} (s : Same F F') : (upE X C F D).Le (upE X C F' D) :=
  ⟨fun _ h F2 H2 σ2 fp2 S2 s2 => h F2 H2 σ2 fp2 S2 (s.trans s2), fun _ _ h F2 H2 σ2 fp2 v S2 s2 r => h F2 H2 σ2 fp2 v S2 (s.trans s2) r,
   fun _ h F2 H2 σ2 fp2 S2 s2 => h F2 H2 σ2 fp2 S2 (s.trans s2), fun _ h F2 H2 σ2 fp2 S2 s2 => h F2 H2 σ2 fp2 S2 (s.trans s2)⟩
def LS (X : Cx) (t : DS) : TS := fun D σ H => ∃ C F env fp, SR X.K X.mg C F H σ env fp ∧ t.run (upE X C F D) env

section
variable {X : Cx} {st : Stmt} {rest sts : List Stmt} {e a b : Expr} {te ta tb : DE} {t u : DS} {pos : Pos}
theorem ps_imp {t t' : TS} (h : PS X st t) (m : ∀ D σ H, t' D σ H → t D σ H) : PS X st t' := ⟨fun pins s σ H D I q => h.run pins s σ H D I (m D σ H q)⟩
theorem pss_imp {t t' : TS} (h : PSs X sts t) (m : ∀ D σ H, t' D σ H → t D σ H) : PSs X sts t' := ⟨fun pins s σ H D I q => h.run pins s σ H D I (m D σ H q)⟩

/-! ### blocks, small statements -/
def sNext : DS where
  run D env := D.nx env
  mono _ _ _ h q := h.nx _ q
def sSeq (t u : DS) : DS where
  run D env := t.run { D with nx := fun e => u.run D e } env
  mono D D' env h q := t.mono _ _ _ (h.withNx fun e q => u.mono _ _ _ h q) q
theorem next_down {D : Ends} {σ : L2.St} {H : Hp} (q : LS X sNext D σ H) : tNext D σ H := by
  obtain ⟨C, F, env, fp, S, q⟩ := q
  exact q F H σ fp S (Same.refl F)
theorem dss_nil : PSs X [] (LS X sNext) := pss_imp pss_nil fun _ _ _ q => next_down q
theorem ds_pass : PS X (.Pass pos) (LS X sNext) := ps_imp ps_pass fun _ _ _ q => next_down q
theorem ds_doc {x j pos'} : PS X (.Expr (.Constant (.str x) j pos) pos') (LS X sNext) := ps_imp ps_doc fun _ _ _ q => next_down q
theorem dss_cons (h1 : PS X st (LS X t)) (h2 : PSs X rest (LS X u)) : PSs X (st :: rest) (LS X (sSeq t u)) := by
  refine pss_imp (pss_cons h1 h2) fun D σ H q => ?_
  obtain ⟨C, F, env, fp, S, q⟩ := q
  refine ⟨C, F, env, fp, S, t.to q ⟨fun e q F' H' σ' fp' S' s' => ?_, fun _ _ q => q, fun _ q => q, fun _ q => q⟩⟩
  exact ⟨C, F', e, fp', S', u.mono _ _ _ (upE_le s') q⟩
theorem dss_one (h1 : PS X st (LS X t)) : PSs X [st] (LS X t) := pss_one h1
def sBrk : DS where
  run D env := D.bk env
  mono _ _ _ h q := h.bk _ q
def sCont : DS where
  run D env := D.ct env
  mono _ _ _ h q := h.ct _ q
theorem ds_brk : PS X (.Break pos) (LS X sBrk) := by
  refine ps_imp ps_break fun D σ H q => ?_
  obtain ⟨C, F, env, fp, S, q⟩ := q
  exact q F H σ fp S (Same.refl F)
theorem ds_cont : PS X (.Continue pos) (LS X sCont) := by
  refine ps_imp ps_continue fun D σ H q => ?_
  obtain ⟨C, F, env, fp, S, q⟩ := q
  exact q F H σ fp S (Same.refl F)
/-- a place that is never come to -/
def sNever : DS where
  run _ _ := False
  mono _ _ _ _ q := q
theorem ds_never : PS X st (LS X sNever) := ps_imp ps_never fun D σ H q => by
  obtain ⟨C, F, env, fp, S, q⟩ := q
  exact q
def sExpr (e : DE) : DS where
  run D env := e.run env fun _ e1 => D.nx e1
  mono D D' env h q := e.mono _ _ _ (fun _ e1 q => h.nx _ q) q
theorem ds_expr (he : PE X e (LE X te)) (hs : swapsWith e none pos.line X.env = pure false := by rfl) : PS X (.Expr e pos) (LS X (sExpr te)) := by
  refine ps_imp (ps_expr he hs) fun D σ H q => ?_
  obtain ⟨C, F, env, fp, S, q⟩ := q
  exact ⟨C, F, env, fp, S, te.mono _ _ _ (fun r e1 q F' H' fp' v S' s' _ => q F' H' σ fp' S' s') q⟩
/-- an own slot's list is handed out -/
theorem SR.give {K : PySem.W.Frag} {mg : Str → Option Value} {C : Cn} {F H : Hp} {σ : L2.St} {env : En} {fp : Nat → List Addr} (S : SR K mg C F H σ env fp) {i : Nat} {xs : List D} (h : env[i]? = some (.ow xs)) :
    ∃ v, σ[i]? = some (some v) ∧ SR K mg C F H σ (env.set i .no) (fpSet fp i []) ∧ VR K mg C F H σ (fpSet fp i []) v (.fr xs) := by
  obtain ⟨p, vs, a, b, c, d, r⟩ := S.sl i _ h
  have hpi : p ∈ fp i := by rw [a]; simp
  obtain ⟨o1, o2, o3⟩ := S.out i p hpi
  have hi : i < env.length := (List.getElem?_eq_some_iff.mp h).1
  refine ⟨.ref p, b, ⟨S.f0, S.fh, S.bh, S.fn, by rw [List.length_set]; exact S.ln, fun j s es => ?_, fun j k x hj hk => ?_, fun j x hx => ?_, S.iof, S.tm⟩, p, vs, rfl, o1, c, d, r, fun j hj => ?_, o3⟩
  · by_cases hj : j = i
    · subst hj
      rw [List.getElem?_set_self hi] at es
      cases es
      rw [fpSet_same]
      rfl
    · rw [List.getElem?_set_ne (Ne.symm hj)] at es
      rw [fpSet_ne hj]
      exact S.sl j s es
  · by_cases e1 : j = i
    · subst e1; rw [fpSet_same] at hj; cases hj
    · by_cases e2 : k = i
      · subst e2; rw [fpSet_same] at hk; cases hk
      · rw [fpSet_ne e1] at hj; rw [fpSet_ne e2] at hk; exact S.sep j k x hj hk
  · by_cases e1 : j = i
    · subst e1; rw [fpSet_same] at hx; cases hx
    · rw [fpSet_ne e1] at hx; exact S.out j x hx
  · by_cases e1 : j = i
    · subst e1; rw [fpSet_same] at hj; cases hj
    · rw [fpSet_ne e1] at hj; exact e1 (S.sep j i p hj hpi)
def sRet (e : DE) : DS where
  run D env := e.run env fun r e1 => match r with
    | .sh d => D.rt (.sh d) e1
    | .fr ds => D.rt (.fr ds) e1
    | .bo i => match e1[i]? with
      | some (.ow xs) => D.rt (.fr xs) (e1.set i .no)
      | _ => False
  mono D D' env h q := by
    refine e.mono _ _ _ (fun r e1 q => ?_) q
    split at q
    · exact h.rt _ _ q
    · exact h.rt _ _ q
    · split at q
      · rename_i hx
        exact h.rt _ _ q
      · exact q.elim
theorem ds_ret (he : PE X e (LE X te)) : PS X (.Return (some e) pos) (LS X (sRet te)) := by
  refine ps_imp (ps_ret he) fun D σ H q => ?_
  obtain ⟨C, F, env, fp, S, q⟩ := q
  refine ⟨C, F, env, fp, S, te.mono _ _ _ (fun r e1 q F' H' fp' v S' s' rv => ?_) q⟩
  split at q
  · exact q F' H' σ fp' v S' s' rv
  · exact q F' H' σ fp' v S' s' rv
  · split at q
    · rename_i i _ xs hx
      obtain ⟨w, h1, h2, h3⟩ := S'.give hx
      have e0 : σ[i]? = some (some v) := rv
      rw [h1] at e0
      cases e0
      exact q F' H' σ _ v h2 s' h3
    · exact q.elim
def sRetN : DS where
  run D env := D.rt (.sh .non) env
  mono _ _ _ h q := h.rt _ _ q
theorem ds_retN : PS X (.Return none pos) (LS X sRetN) := by
  refine ps_imp ps_retN fun D σ H q => ?_
  obtain ⟨C, F, env, fp, S, q⟩ := q
  exact q F H σ fp .non S (Same.refl F) .non
def sIf (c : DT) (t u : DS) : DS where
  run D env := c.run env fun b e1 => if b = true then t.run D e1 else u.run D e1
  mono D D' env h q := by
    refine c.mono _ _ _ (fun b e1 q => ?_) q
    cases b
    · exact u.mono _ _ _ h q
    · exact t.mono _ _ _ h q
theorem ds_if {c : Expr} {xs ys : List Stmt} {tc : DT} (hc : PT X c (LT X tc)) (ha : PSs X xs (LS X t)) (hb : PSs X ys (LS X u)) : PS X (.If c xs ys pos) (LS X (sIf tc t u)) := by
  refine ps_imp (ps_if hc ha hb) fun D σ H q => ?_
  obtain ⟨C, F, env, fp, S, q⟩ := q
  refine ⟨C, F, env, fp, S, tc.mono _ _ _ (fun b e1 q F' H' fp' S' s' => ?_) q⟩
  cases b with
  | true => exact ⟨C, F', e1, fp', S', t.mono _ _ _ (upE_le s') q⟩
  | false => exact ⟨C, F', e1, fp', S', u.mono _ _ _ (upE_le s') q⟩

/-! ### targets -/
structure DG where
  run : D → En → (En → Prop) → Prop
  mono : ∀ d env (Q Q' : En → Prop), (∀ e, Q e → Q' e) → run d env Q → run d env Q'
structure DGs where
  run : List D → En → (En → Prop) → Prop
  mono : ∀ d env (Q Q' : En → Prop), (∀ e, Q e → Q' e) → run d env Q → run d env Q'
def LG (X : Cx) (t : DG) : TG := fun v σ H Q => ∃ C F env fp d, SR X.K X.mg C F H σ env fp ∧ Rep X.K X.mg F v d ∧ t.run d env fun env' => ∀ F' H' σ' fp', SR X.K X.mg C F' H' σ' env' fp' → Same F F' → Q σ' H'
def LGs (X : Cx) (t : DGs) : TGs := fun vs σ H Q => ∃ C F env fp ds, SR X.K X.mg C F H σ env fp ∧ Reps X.K X.mg F vs ds ∧ t.run ds env fun env' => ∀ F' H' σ' fp', SR X.K X.mg C F' H' σ' env' fp' → Same F F' → Q σ' H'
def gN (i : Nat) : DG where
  run d env Q := Q (env.set i (.sh d))
  mono _ _ _ _ h q := h _ q
def gNilD : DGs where
  run ds env Q := match ds with
    | [] => Q env
    | _ => False
  mono ds _ _ _ h q := by
    cases ds
    · exact h _ q
    · exact q.elim
def gConsD (t : DG) (u : DGs) : DGs where
  run ds env Q := match ds with
    | d :: ds => t.run d env fun e1 => u.run ds e1 Q
    | [] => False
  mono ds _ _ _ h q := by
    cases ds
    · exact q.elim
    · exact t.mono _ _ _ _ (fun e1 q => u.mono _ _ _ _ h q) q
def gTupD (n : Nat) (t : DGs) : DG where
  run d env Q := match d with
    | .tup ds => ds.length = n ∧ t.run ds env Q
    | _ => False
  mono d _ _ _ h q := by
    cases d <;> first | exact (show False from q).elim | exact ⟨q.1, t.mono _ _ _ _ h q.2⟩
theorem pg_imp {g g' : TG} (h : PG X e g) (m : ∀ v σ H Q, g' v σ H Q → g v σ H Q) : PG X e g' := ⟨fun pins s σ H v u Q I r q => h.run pins s σ H v u Q I r (m v σ H Q q)⟩
theorem pgs_imp {es : List Expr} {g g' : TGs} (h : PGs X es g) (m : ∀ v σ H Q, g' v σ H Q → g v σ H Q) : PGs X es g' := ⟨fun pins s σ H v u Q I r q => h.run pins s σ H v u Q I r (m v σ H Q q)⟩
theorem dg_name {i : Nat} (h : PG X e (gName i)) : PG X e (LG X (gN i)) := by
  refine pg_imp h fun v σ H Q q => ?_
  obtain ⟨C, F, env, fp, d, S, r, q⟩ := q
  exact q F H _ _ (S.setS r) (Same.refl F)
theorem dgs_nil : PGs X [] (LGs X gNilD) := by
  refine pgs_imp pgs_nil fun vs σ H Q q => ?_
  obtain ⟨C, F, env, fp, ds, S, r, q⟩ := q
  cases r with
  | nil => exact ⟨rfl, q F H σ fp S (Same.refl F)⟩
  | cons _ _ => exact (show False from q).elim
theorem dgs_cons {es : List Expr} {g : DG} {gs : DGs} (h1 : PG X e (LG X g)) (h2 : PGs X es (LGs X gs)) (hs : (assignEach (e :: es) X.env).map (·.2) = assign e X.env :: (assignEach es X.env).map (·.2) := by rfl) : PGs X (e :: es) (LGs X (gConsD g gs)) := by
  refine pgs_imp (pgs_cons h1 h2 hs) fun vs σ H Q q => ?_
  obtain ⟨C, F, env, fp, ds, S, r, q⟩ := q
  cases r with
  | nil => exact (show False from q).elim
  | cons r1 r2 =>
    refine ⟨_, _, rfl, C, F, env, fp, _, S, r1, g.mono _ _ _ _ (fun e1 q F' H' σ' fp' S' s' => ?_) q⟩
    exact ⟨C, F', e1, fp', _, S', r2.up s', gs.mono _ _ _ _ (fun e2 q F2 H2 σ2 fp2 S2 s2 => q F2 H2 σ2 fp2 S2 (s'.trans s2)) q⟩
theorem dg_tup {es : List Expr} {k n : Nat} {gs : DGs} (hc : X.calm = true) (h : PGs X es (LGs X gs)) (hn : (assignEach es X.env).length = n := by rfl) (hst : (assignEach es X.env).findIdx? (·.1) = none := by rfl) : PG X (.Tuple es k pos) (LG X (gTupD n gs)) := by
  refine pg_imp (pg_tup hc h hn hst) fun v σ H Q q => ?_
  obtain ⟨C, F, env, fp, d, S, r, q⟩ := q
  cases r <;> first | exact (show False from q).elim | skip
  rename_i a vs ds h1 h2
  obtain ⟨q1, q2⟩ := q
  exact ⟨a, vs, rfl, same_t S.fh h1, h2.len.trans q1, C, F, env, fp, ds, S, h2, q2⟩

/-! ### stores -/
def sAsg (e : DE) (g : DG) : DS where
  run D env := e.run env fun r e1 => dat e1 r fun d e2 => g.run d e2 D.nx
  mono D D' env h q := e.mono _ _ _ (fun r e1 q => dat_mono (fun d e2 q => g.mono _ _ _ _ h.nx q) q) q
theorem asg_down {g : DG} {D : Ends} {σ : L2.St} {H : Hp} (q : LS X (sAsg te g) D σ H) : tAsg (LE X te) (LG X g) D σ H := by
  obtain ⟨C, F, env, fp, S, q⟩ := q
  refine ⟨C, F, env, fp, S, te.mono _ _ _ (fun r e1 q F1 H1 fp1 v S1 s1 r1 => ?_) q⟩
  obtain ⟨F2, e2, fp2, d, S2, s2, r2, q⟩ := dat_ok S1 r1 q
  exact ⟨C, F2, e2, fp2, d, S2, r2, g.mono _ _ _ _ (fun e3 q F3 H3 σ3 fp3 S3 s3 => q F3 H3 σ3 fp3 S3 ((s1.trans s2).trans s3)) q⟩
theorem ds_asg {tg : Expr} {g : DG} (he : PE X e (LE X te)) (hg : PG X tg (LG X g)) (hs : swapsWithSole [tg] e pos.line X.env = pure false := by rfl) (hw : swappedStores [tg] e X.env = pure none := by rfl)
    (h1 : (assignEach [tg] X.env).map (·.2) = [assign tg X.env] := by rfl) : PS X (.Assign [tg] e pos) (LS X (sAsg te g)) := ps_imp (ps_asg he hg hs hw h1) fun D σ H q => asg_down q
abbrev sSet (i : Nat) (e : DE) : DS := sAsg e (gN i)
theorem set_down {i : Nat} {D : Ends} {σ : L2.St} {H : Hp} (q : LS X (sSet i te) D σ H) : tAsg (LE X te) (gName i) D σ H := by
  obtain ⟨C, F, env, fp, S, q⟩ := q
  refine ⟨C, F, env, fp, S, te.mono _ _ _ (fun r e1 q F1 H1 fp1 v S1 s1 r1 => ?_) q⟩
  obtain ⟨F2, e2, fp2, d, S2, s2, r2, q⟩ := dat_ok S1 r1 q
  exact q F2 H1 _ _ (S2.setS r2) (s1.trans s2)
/-- name = e, the name holds data -/
theorem ds_set {i : Nat} {x : Str} {pos' : Pos} (hN : X.N.Nodup) (hi : X.N[i]? = some x) (hx : Loc X.env.scope x) (he : PE X e (LE X te)) (hs : swapsWith e (some (.Name x pos')) pos.line X.env = pure false := by rfl)
    (hf : X.fn x = true ∨ X.env.scope.names.lookup x = some .local := by first | exact .inl rfl | exact .inr rfl | assumption) : PS X (.Assign [.Name x pos'] e pos) (LS X (sSet i te)) := ps_imp (ps_set hN hi hx he hs hf) fun D σ H q => set_down q
/-- name = e, a new list that the name's slot owns -/
def sOwn (i : Nat) (e : DE) : DS where
  run D env := e.run env fun r e1 => match r with
    | .fr ds => D.nx (e1.set i (.ow ds))
    | .sh d => D.nx (e1.set i (.sh d))
    | .bo _ => False
  mono D D' env h q := by
    refine e.mono _ _ _ (fun r e1 q => ?_) q
    split at q
    · exact h.nx _ q
    · exact h.nx _ q
    · exact q.elim
theorem own_down {i : Nat} {D : Ends} {σ : L2.St} {H : Hp} (q : LS X (sOwn i te) D σ H) : tAsg (LE X te) (gName i) D σ H := by
  obtain ⟨C, F, env, fp, S, q⟩ := q
  refine ⟨C, F, env, fp, S, te.mono _ _ _ (fun r e1 q F1 H1 fp1 v S1 s1 r1 => ?_) q⟩
  split at q
  · obtain ⟨fp2, S2⟩ := S1.setO (i := i) r1
    exact q F1 H1 _ _ S2 s1
  · exact q F1 H1 _ _ (S1.setS r1) s1
  · exact q.elim
theorem ds_own {i : Nat} {x : Str} {pos' : Pos} (hN : X.N.Nodup) (hi : X.N[i]? = some x) (hx : Loc X.env.scope x) (he : PE X e (LE X te)) (hs : swapsWith e (some (.Name x pos')) pos.line X.env = pure false := by rfl)
    (hf : X.fn x = true ∨ X.env.scope.names.lookup x = some .local := by first | exact .inl rfl | exact .inr rfl | assumption) : PS X (.Assign [.Name x pos'] e pos) (LS X (sOwn i te)) := ps_imp (ps_set hN hi hx he hs hf) fun D σ H q => own_down q
/-- a, b = x, y -/
def sPar (i j : Nat) (as : DA) : DS where
  run D env := as.run env fun ds e1 => match ds with
    | [d, e] => D.nx ((e1.set i (.sh d)).set j (.sh e))
    | _ => False
  mono D D' env h q := by
    refine as.mono _ _ _ (fun ds e1 q => ?_) q
    split at q
    · exact h.nx _ q
    · exact q.elim
theorem ds_par {i j : Nat} {x y : Str} {tr : DA} {px py pt : Pos} {kt k2 pt2} (hc : X.calm = true) (hN : X.N.Nodup) (hi : X.N[i]? = some x) (hj : X.N[j]? = some y) (hij : i ≠ j)
    (hx : X.env.scope.names.lookup x = some .local) (hy : X.env.scope.names.lookup y = some .local) (ha : PA X [a, b] (LA X tr))
    (hw : swappedStores [.Tuple [.Name x px, .Name y py] kt pt] (.Tuple [a, b] k2 pt2) X.env = pure (some [x, y]))
    (hs : swapsWithSole [.Tuple [.Name x px, .Name y py] kt pt] (.Tuple [a, b] k2 pt2) pos.line X.env = pure false := by rfl) :
    PS X (.Assign [.Tuple [.Name x px, .Name y py] kt pt] (.Tuple [a, b] k2 pt2) pos) (LS X (sPar i j tr)) := by
  refine ps_imp (ps_par hc hN hi hj hij hx hy ha hw hs) fun D σ H q => ?_
  obtain ⟨C, F, env, fp, S, q⟩ := q
  refine ⟨C, F, env, fp, S, tr.mono _ _ _ (fun ds e1 q F1 H1 fp1 vs S1 s1 r1 => ?_) q⟩
  split at q
  · cases r1 with
    | cons r1 r2 =>
      cases r2 with
      | cons r2 r3 =>
        cases r3
        exact ⟨_, _, rfl, q F1 H1 _ _ ((S1.setS r1).setS r2) s1⟩
  · exact q.elim
/-- name op= e -/
def sAug (i : Nat) (R : RO) (e : DE) : DS where
  run D env := match env[i]? with
    | some (.sh d) => e.run env fun r e1 => match look e1 r with
      | some d' => (R d d').1 ∧ match (R d d').2 with
        | .sh z => D.nx (e1.set i (.sh z))
        | _ => False
      | none => False
    | _ => False
  mono D D' env h q := by
    split at q
    · refine e.mono _ _ _ (fun r e1 q => ?_) q
      split at q
      · refine ⟨q.1, ?_⟩
        have q := q.2
        split at q
        · exact h.nx _ q
        · exact q.elim
      · exact q.elim
    · exact q.elim
theorem ds_aug {i : Nat} {x : Str} {op : Operator} {R : RO} {pos' : Pos} (ho : OpS X (inplaceOp op) R) (hN : X.N.Nodup) (hi : X.N[i]? = some x) (hx : Loc X.env.scope x) (he : PE X e (LE X te))
    (hf : X.fn x = true ∨ X.env.scope.names.lookup x = some .local := by first | exact .inl rfl | exact .inr rfl | assumption) : PS X (.AugAssign (.Name x pos') op e pos) (LS X (sAug i R te)) := by
  obtain ⟨r, h1, h2⟩ := ho
  refine ps_imp (ps_aug (ti := r) hN hi hx he h1 hf) fun D σ H q => ?_
  obtain ⟨C, F, env, fp, S, q⟩ := q
  have q : (match env[i]? with
    | some (.sh d) => te.run env fun r e1 => match look e1 r with
      | some d' => (R d d').1 ∧ match (R d d').2 with
        | .sh z => (upE X C F D).nx (e1.set i (.sh z))
        | _ => False
      | none => False
    | _ => False) := q
  split at q
  · rename_i d hd
    obtain ⟨_, v, b, c⟩ := S.sl i _ hd
    refine ⟨v, b, C, F, env, fp, S, te.mono _ _ _ (fun y e1 q F1 H1 fp1 u S1 s1 r1 => ?_) q⟩
    split at q
    · rename_i d' hd'
      obtain ⟨q1, q⟩ := q
      refine h2 C F1 H1 σ e1 fp1 v u d d' _ S1 (RT.of (c.up s1) S1.fh) (look_rt S1 r1 hd') q1 fun F2 H2 fp2 w S2 s2 r2 => ?_
      split at q
      · rename_i z hz
        rw [hz] at r2
        exact q F2 H2 _ _ (S2.setS r2) (s1.trans s2)
      · exact q.elim
    · exact q.elim
  · exact q.elim
/-- xs[k] = e, xs the own list in slot j -/
def sStore (j : Nat) (e k : DE) : DS where
  run D env := e.run env fun r e1 => dat e1 r fun d e2 => (ownAt e2 j).isSome = true ∧ k.run e2 fun rk e3 => match rk, ownAt e3 j with
    | .sh (.int n), some xs => (ixN xs.length n).isSome = true ∧ D.nx (putAt e3 j (xs.set ((ixN xs.length n).getD 0) d))
    | _, _ => False
  mono D D' env h q := by
    refine e.mono _ _ _ (fun r e1 q => ?_) q
    refine dat_mono (fun d e2 q => ⟨q.1, ?_⟩) q
    refine k.mono _ _ _ (fun rk e3 q => ?_) q.2
    split at q
    · exact ⟨q.1, h.nx _ q.2⟩
    · exact q.elim
theorem ds_store {j : Nat} {o k : Expr} {tk : DE} {p2 : Pos} (he : PE X e (LE X te)) (ho : PE X o (tVar j)) (hk : PE X k (LE X tk))
    (ha : ∀ v, assign (.Subscript o k p2) X.env v = (do
      let ov ← holding [v] (eval o X.env)
      let iv ← holding [v, ov] (eval k X.env)
      standAt p2
      holding [v, ov, iv] (setItem ov iv v)
      release [v, ov, iv] []) := by intro _; rfl)
    (hs : swapsWithSole [.Subscript o k p2] e pos.line X.env = pure false := by rfl) (hw : swappedStores [.Subscript o k p2] e X.env = pure none := by rfl)
    (h1 : (assignEach [.Subscript o k p2] X.env).map (·.2) = [assign (.Subscript o k p2) X.env] := by rfl) : PS X (.Assign [.Subscript o k p2] e pos) (LS X (sStore j te tk)) := by
  refine ps_imp (ps_asg he (pg_sub ho hk set_list ha) hs hw h1) fun D σ H q => ?_
  obtain ⟨C, F, env, fp, S, q⟩ := q
  refine ⟨C, F, env, fp, S, te.mono _ _ _ (fun r e1 q F1 H1 fp1 v S1 s1 r1 => ?_) q⟩
  obtain ⟨F2, e2, fp2, d, S2, s2, r2, q0, q⟩ := dat_ok S1 r1 q
  obtain ⟨xs0, h0⟩ := Option.isSome_iff_exists.mp q0
  obtain ⟨s0, a0, b0, _⟩ := ownAt_sl h0
  obtain ⟨p, ws0, z0, hp, c0, d0⟩ := S2.ownAt a0 b0
  refine ⟨.ref p, hp, C, F2, e2, fp2, S2, tk.mono _ _ _ (fun rk e3 q F3 H3 fp3 w S3 s3 r3 => ?_) q⟩
  split at q
  · rename_i n xs hxs
    cases r3
    obtain ⟨q1, q⟩ := q
    obtain ⟨m, hm⟩ := Option.isSome_iff_exists.mp q1
    rw [hm] at q
    obtain ⟨sl, hsl, ho, hput⟩ := ownAt_sl hxs
    obtain ⟨p', ws, z, hp', c, d1⟩ := S3.ownAt hsl ho
    rw [hp] at hp'
    cases hp'
    refine ⟨p, ws, n, m, rfl, rfl, c, by rw [d1.len]; exact hm, ?_⟩
    have S4 := S3.write (ys := xs.set m d) hsl ho hp (d1.set (r2.up s3) m)
    rw [← hput] at S4
    exact q F3 _ σ fp3 S4 ((s1.trans s2).trans s3)
  · exact q.elim

/-! ### while -/
def sWhile (c : DT) (b : DS) : DS where
  run D env := ∃ W : Nat → En → Prop, (∃ m, W m env) ∧ ∀ m e, W m e → c.run e fun k e1 => if k = true then ∃ N : En → Prop, (∀ e', N e' → ∃ m', m' < m ∧ W m' e') ∧ b.run { D with nx := N, ct := N, bk := D.nx } e1 else D.nx e1
  mono D D' env h q := by
    obtain ⟨W, h0, q⟩ := q
    refine ⟨W, h0, fun m e w => c.mono _ _ _ (fun k e1 q => ?_) (q m e w)⟩
    cases k with
    | false => exact h.nx _ q
    | true =>
      obtain ⟨N, hN, q⟩ := q
      exact ⟨N, hN, b.to q ⟨fun _ q => q, h.rt, h.nx, fun _ q => q⟩⟩
theorem ds_while {c : Expr} {body : List Stmt} {tc : DT} (hp : PassesOwn (model X.prog X.w) X.A X.env X.xe) (hc : PT X c (LT X tc)) (hb : PSs X body (LS X t)) : PS X (.While c body [] pos) (LS X (sWhile tc t)) := by
  refine ps_imp (ps_while hp hc hb) fun D σ H q => ?_
  obtain ⟨C, F, env, fp, S, W, ⟨m0, w0⟩, q⟩ := q
  refine ⟨fun m σ H => ∃ F1 e1 fp1, SR X.K X.mg C F1 H σ e1 fp1 ∧ Same F F1 ∧ W m e1, ⟨m0, F, env, fp, S, Same.refl F, w0⟩, fun m σ H w => ?_⟩
  obtain ⟨F1, e1, fp1, S1, s1, w⟩ := w
  refine ⟨C, F1, e1, fp1, S1, tc.mono _ _ _ (fun k e2 q F2 H2 fp2 S2 s2 => ?_) (q m e1 w)⟩
  cases k with
  | false => exact q F2 H2 σ fp2 S2 (s1.trans s2)
  | true =>
    obtain ⟨N, hN, q⟩ := q
    refine ⟨fun σ' H' => ∃ F3 e3 fp3, SR X.K X.mg C F3 H' σ' e3 fp3 ∧ Same F F3 ∧ N e3, fun σ' H' n => ?_, C, F2, e2, fp2, S2, t.to q ⟨fun e q F3 H3 σ3 fp3 S3 s3 => ⟨F3, e, fp3, S3, (s1.trans s2).trans s3, q⟩, fun r e q F3 H3 σ3 fp3 v S3 s3 rv => q F3 H3 σ3 fp3 v S3 ((s1.trans s2).trans s3) rv, fun e q F3 H3 σ3 fp3 S3 s3 => q F3 H3 σ3 fp3 S3 ((s1.trans s2).trans s3), fun e q F3 H3 σ3 fp3 S3 s3 => ⟨F3, e, fp3, S3, (s1.trans s2).trans s3, q⟩⟩⟩
    obtain ⟨F3, e3, fp3, S3, s3, n⟩ := n
    obtain ⟨m', hm, w'⟩ := hN e3 n
    exact ⟨m', hm, F3, e3, fp3, S3, s3, w'⟩

/-! ### what is walked -/
structure DI where
  run : En → (List D → En → Prop) → Prop
  mono : ∀ env (Q Q' : List D → En → Prop), (∀ r e, Q r e → Q' r e) → run env Q → run env Q'
/-- the iterator gives these items, one a turn -/
def JOk (X : Cx) (F : Hp) (J : It) (items : List D) : Prop := ∀ C k F1 H1 σ env fp, SR X.K X.mg C F1 H1 σ env fp → Same F F1 →
  (∀ d, items[k]? = some d → J.go k H1 ∧ ∀ x H', J.yld k H1 x H' → ∃ F', SR X.K X.mg C F' H' σ env fp ∧ Same F1 F' ∧ Rep X.K X.mg F' x d) ∧ (items.length ≤ k → J.stop k H1)
def LI (X : Cx) (t : DI) : TI := fun σ H R => ∃ C F env fp, SR X.K X.mg C F H σ env fp ∧ t.run env fun items env' => ∀ F' H' fp' J, SR X.K X.mg C F' H' σ env' fp' → Same F F' → JOk X F' J items → R J H'
theorem pi_imp {tg it : Expr} {w w' : TI} (h : PI X tg it w) (m : ∀ σ H R, w' σ H R → w σ H R) : PI X tg it w' := ⟨fun pins s σ H R I q => h.run pins s σ H R I (m σ H R q)⟩
/-! for -/
def sFor (i : DI) (g : DG) (b : DS) : DS where
  run D env := i.run env fun items e0 => ∃ W : Nat → En → Prop, W 0 e0 ∧ (∀ k x e1, items[k]? = some x → W k e1 → g.run x e1 fun e2 => b.run { D with nx := W (k + 1), ct := W (k + 1), bk := D.nx } e2) ∧ ∀ e1, W items.length e1 → D.nx e1
  mono D D' env h q := by
    refine i.mono _ _ _ (fun items e0 q => ?_) q
    obtain ⟨W, w0, hs, hd⟩ := q
    exact ⟨W, w0, fun k x e1 hx w => g.mono _ _ _ _ (fun e2 q => DS.to b (D := { D with nx := W (k + 1), ct := W (k + 1), bk := D.nx }) q ⟨fun _ q => q, h.rt, h.nx, fun _ q => q⟩) (hs k x e1 hx w), fun e1 w => h.nx _ (hd e1 w)⟩
theorem ds_for {tg iter : Expr} {body : List Stmt} {di : DI} {g : DG} (hp : PassesOwn (model X.prog X.w) X.A X.env X.xe) (hc : X.calm = true) (hi : PI X tg iter (LI X di)) (hg : PG X tg (LG X g)) (hb : PSs X body (LS X t))
    (hs : ∀ x, foldedSetIterable iter X.env x = pure x := by intro _; rfl) : PS X (.For tg iter body [] pos) (LS X (sFor di g t)) := by
  refine ps_imp (ps_for hp hc hi hg hb hs) fun D σ H q => ?_
  obtain ⟨C, F, env, fp, S, q⟩ := q
  refine ⟨C, F, env, fp, S, di.mono _ _ _ (fun items e0 q F0 H0 fp0 J S0 s0 jk => ?_) q⟩
  obtain ⟨W, w0, hs, hd⟩ := q
  refine ⟨fun k m σ H => m = items.length - k ∧ k ≤ items.length ∧ ∃ F1 e1 fp1, SR X.K X.mg C F1 H σ e1 fp1 ∧ Same F0 F1 ∧ W k e1, ⟨_, rfl, Nat.zero_le _, F0, e0, fp0, S0, Same.refl F0, w0⟩, fun k m σ H w => ?_⟩
  obtain ⟨rfl, hk, F1, e1, fp1, S1, s1, w⟩ := w
  obtain ⟨j1, j2⟩ := jk C k F1 H σ e1 fp1 S1 s1
  by_cases hlt : k < items.length
  · refine .inr ?_
    obtain ⟨g1, g2⟩ := j1 items[k] (List.getElem?_eq_getElem hlt)
    refine ⟨g1, fun σ' H' => ∃ F2 e2 fp2, SR X.K X.mg C F2 H' σ' e2 fp2 ∧ Same F0 F2 ∧ W (k + 1) e2, fun σ' H' n => ?_, fun x H' y => ?_⟩
    · obtain ⟨F2, e2, fp2, S2, s2, n⟩ := n
      exact ⟨items.length - (k + 1), by omega, rfl, hlt, F2, e2, fp2, S2, s2, n⟩
    · obtain ⟨F2, S2, s2, r2⟩ := g2 x H' y
      refine ⟨C, F2, e1, fp1, _, S2, r2, g.mono _ _ _ _ (fun e2 q F3 H3 σ3 fp3 S3 s3 => ?_) (hs k _ e1 (List.getElem?_eq_getElem hlt) w)⟩
      refine ⟨C, F3, e2, fp3, S3, t.to q ⟨fun e q F4 H4 σ4 fp4 S4 s4 => ⟨F4, e, fp4, S4, ((s1.trans s2).trans s3).trans s4, q⟩, fun r e q F4 H4 σ4 fp4 v S4 s4 rv => q F4 H4 σ4 fp4 v S4 ((((s0.trans s1).trans s2).trans s3).trans s4) rv, fun e q F4 H4 σ4 fp4 S4 s4 => q F4 H4 σ4 fp4 S4 ((((s0.trans s1).trans s2).trans s3).trans s4), fun e q F4 H4 σ4 fp4 S4 s4 => ⟨F4, e, fp4, S4, ((s1.trans s2).trans s3).trans s4, q⟩⟩⟩
  · have e : k = items.length := by omega
    subst e
    exact .inl ⟨j2 (Nat.le_refl _), hd e1 w F1 H σ fp1 S1 (s0.trans s1)⟩
end
end Dn

set_option Elab.async false
set_option linter.all false
set_option maxRecDepth 100000
set_option maxHeartbeats 4000000
/-! Dn, part 7: what is walked, comprehensions, methods of lists, defs. -/
namespace Dn
open PySem PySem.Spec PyProof.Rows L2
section
variable {X : Cx} {tg e a b c : Expr} {te ta tb : DE} {tr : DA} {pos p : Pos}

/-! ### a list, a tuple -/
theorem jok_list {F : Hp} {q : Addr} {vs : List V} {ds : List D} (h : SqL X.K F q vs) (r : Reps X.K X.mg F vs ds) (uniq : ∀ F1 H1 σ env fp C ys, SR X.K X.mg C F1 H1 σ env fp → Same F F1 → SqL X.K H1 q ys → ys = vs) : JOk X F (Itl X.K q) ds := by
  intro C k F1 H1 σ env fp S s
  have hq : SqL X.K H1 q vs := (s.trans S.fh).seq h
  refine ⟨fun d hd => ?_, fun hk => ⟨vs, hq, by rw [r.len]; exact hk⟩⟩
  obtain ⟨v, h1, h2⟩ := r.get hd
  refine ⟨⟨vs, v, hq, h1⟩, fun x H' y => ?_⟩
  obtain ⟨rfl, y⟩ := y
  have e1 := y vs hq
  rw [h1] at e1
  cases e1
  exact ⟨F1, S, Same.refl F1, h2.up s⟩
theorem jokL {F : Hp} {q : Addr} {vs : List V} {ds : List D} (h : SqL X.K F q vs) (r : Reps X.K X.mg F vs ds) : JOk X F (Itl X.K q) ds := by
  intro C k F1 H1 σ env fp S s
  have hq : SqL X.K H1 q vs := (s.trans S.fh).seq h
  refine ⟨fun d hd => ?_, fun hk => ⟨vs, hq, by rw [r.len]; exact hk⟩⟩
  obtain ⟨v, h1, h2⟩ := r.get hd
  refine ⟨⟨vs, v, hq, h1⟩, fun x H' y => ?_⟩
  obtain ⟨rfl, y⟩ := y
  have e1 := y vs hq
  rw [h1] at e1
  cases e1
  exact ⟨F1, S, Same.refl F1, h2.up s⟩
theorem jokT {F : Hp} {q : Addr} {vs : List V} {ds : List D} (h : SqT X.K F q vs) (r : Reps X.K X.mg F vs ds) : JOk X F (Itt X.K q) ds := by
  intro C k F1 H1 σ env fp S s
  have hq : SqT X.K H1 q vs := same_t (s.trans S.fh) h
  refine ⟨fun d hd => ?_, fun hk => ⟨vs, hq, by rw [r.len]; exact hk⟩⟩
  obtain ⟨v, h1, h2⟩ := r.get hd
  refine ⟨⟨vs, v, hq, h1⟩, fun x H' y => ?_⟩
  obtain ⟨rfl, y⟩ := y
  have e1 := y vs hq
  rw [h1] at e1
  cases e1
  exact ⟨F1, S, Same.refl F1, h2.up s⟩
def iSeqV (K : PySem.W.Frag) (tl : TE) : TI := fun σ H R => tl σ H fun x H1 => ∃ a, x = .ref a ∧ (((∃ xs, SqL K H1 a xs) ∧ R (Itl K a) H1) ∨ ((∃ xs, SqT K H1 a xs) ∧ R (Itt K a) H1))
theorem pi_seq {l : Expr} {tl : TE} (hl : PE X l tl) : PI X tg l (iSeqV X.K tl) := by
  refine ⟨fun pins s σ H R I h => thn (hl.run pins s σ H _ I h) fun v s1 z => ?_⟩
  obtain ⟨x, H1, I1, r1, a, e, q⟩ := z
  subst e
  cases r1
  rcases q with ⟨⟨xs, hq⟩, q⟩ | ⟨⟨xs, hq⟩, q⟩
  · obtain ⟨its, _, pl, _⟩ := I1.list hq
    exact wpAny_pyIter_list pl.isList (pi_one (tk := s1.toks) I1 _ (turn_list a _) ⟨_, Heap.get?_push_size _ rfl, rfl, rfl⟩ q)
  · obtain ⟨its, _, pl, _⟩ := I1.tuple hq
    exact wpAny_pyIter_tuple (show s1.heap.IsTuple a its.toArray from pl) (pi_one (tk := s1.toks) I1 _ (turn_tuple a _) ⟨_, Heap.get?_push_size _ rfl, rfl, rfl⟩ q)
def iSeq (e : DE) : DI where
  run env Q := e.run env fun r e1 => dat e1 r fun d e2 => match d with
    | .lst ds => Q ds e2
    | .tup ds => Q ds e2
    | .frz ds => Q ds e2
    | _ => False
  mono env Q Q' h q := by
    refine e.mono _ _ _ (fun r e1 q => dat_mono (fun d e2 q => ?_) q) q
    cases d <;> first | exact (show False from q).elim | exact h _ _ q
theorem di_seq (he : PE X e (LE X te)) : PI X tg e (LI X (iSeq te)) := by
  refine pi_imp (pi_seq he) fun σ H R q => ?_
  obtain ⟨C, F, env, fp, S, q⟩ := q
  refine ⟨C, F, env, fp, S, te.mono _ _ _ (fun r e1 q F1 H1 fp1 v S1 s1 r1 => ?_) q⟩
  obtain ⟨F2, e2, fp2, d, S2, s2, r2, q⟩ := dat_ok S1 r1 q
  cases r2 <;> first | exact (show False from q).elim | skip
  · rename_i a vs ds h1 h2
    exact ⟨a, rfl, .inl ⟨⟨vs, SqL.of (S2.fh _ _ h1)⟩, q F2 H1 fp2 _ S2 (s1.trans s2) (jokL (SqL.of h1) h2)⟩⟩
  · rename_i a vs ds h1 h2
    exact ⟨a, rfl, .inr ⟨⟨vs, same_t S2.fh h1⟩, q F2 H1 fp2 _ S2 (s1.trans s2) (jokT h1 h2)⟩⟩
  · rename_i a vs ds h1 h2
    exact ⟨a, rfl, .inl ⟨⟨vs, S2.fh.seq h1⟩, q F2 H1 fp2 _ S2 (s1.trans s2) (jokL h1 h2)⟩⟩
/-! ### ranges -/
def rangeD (lo : Int) (n : Nat) : List D := (List.range n).map fun k => .int (lo + (k : Nat))
theorem rangeD_get {lo : Int} {n k : Nat} : (rangeD lo n)[k]? = if k < n then some (.int (lo + (k : Nat))) else none := by
  unfold rangeD
  rw [List.getElem?_map]
  by_cases h : k < n
  · rw [if_pos h, List.getElem?_range h]; rfl
  · rw [if_neg h, List.getElem?_eq_none (by rw [List.length_range]; omega)]; rfl
theorem rangeD_len {lo : Int} {n : Nat} : (rangeD lo n).length = n := by unfold rangeD; rw [List.length_map, List.length_range]
theorem jokR {F : Hp} {lo : Int} {n : Nat} : JOk X F (Itr lo n) (rangeD lo n) := by
  intro C k F1 H1 σ env fp S s
  refine ⟨fun d hd => ?_, fun hk => by rw [rangeD_len] at hk; exact hk⟩
  rw [rangeD_get] at hd
  split at hd
  · rename_i hk
    cases hd
    refine ⟨hk, fun x H' y => ?_⟩
    obtain ⟨rfl, rfl⟩ := y
    exact ⟨F1, S, Same.refl F1, .int _⟩
  · cases hd
def rangeC (lo c : Int) (n : Nat) : List D := (List.range n).map fun k => .int (lo + (k : Nat) * c)
theorem rangeC_get {lo c : Int} {n k : Nat} : (rangeC lo c n)[k]? = if k < n then some (.int (lo + (k : Nat) * c)) else none := by
  unfold rangeC
  rw [List.getElem?_map]
  by_cases h : k < n
  · rw [if_pos h, List.getElem?_range h]; rfl
  · rw [if_neg h, List.getElem?_eq_none (by rw [List.length_range]; omega)]; rfl
theorem rangeC_len {lo c : Int} {n : Nat} : (rangeC lo c n).length = n := by unfold rangeC; rw [List.length_map, List.length_range]
theorem jokC {F : Hp} {lo c : Int} {n : Nat} : JOk X F (Itc lo c n) (rangeC lo c n) := by
  intro C k F1 H1 σ env fp S s
  refine ⟨fun d hd => ?_, fun hk => by rw [rangeC_len] at hk; exact hk⟩
  rw [rangeC_get] at hd
  split at hd
  · rename_i hk
    cases hd
    refine ⟨hk, fun x H' y => ?_⟩
    obtain ⟨rfl, rfl⟩ := y
    exact ⟨F1, S, Same.refl F1, .int _⟩
  · cases hd
def Sm (i : Int) : Prop := -4000000000000000000 ≤ i ∧ i ≤ 4000000000000000000
def iRange1 (as : DA) : DI where
  run env Q := as.run env fun ds e1 => match ds with
    | [.int j] => Sm j ∧ Q (rangeD 0 j.toNat) e1
    | _ => False
  mono env Q Q' h q := by
    refine as.mono _ _ _ (fun ds e1 q => ?_) q
    split at q
    · exact ⟨q.1, h _ _ q.2⟩
    · exact q.elim
def iRange2 (as : DA) : DI where
  run env Q := as.run env fun ds e1 => match ds with
    | [.int i, .int j] => Sm i ∧ Sm j ∧ Q (rangeD i (j - i).toNat) e1
    | _ => False
  mono env Q Q' h q := by
    refine as.mono _ _ _ (fun ds e1 q => ?_) q
    split at q
    · exact ⟨q.1, q.2.1, h _ _ q.2.2⟩
    · exact q.elim
def iRange3 (as : DA) : DI where
  run env Q := as.run env fun ds e1 => match ds with
    | [.int i, .int j, .int c] => ∃ n, RgC i j c n ∧ Q (rangeC i c n) e1
    | _ => False
  mono env Q Q' h q := by
    refine as.mono _ _ _ (fun ds e1 q => ?_) q
    split at q
    · obtain ⟨n, q1, q2⟩ := q
      exact ⟨n, q1, h _ _ q2⟩
    · exact q.elim
theorem di_range1 (hg : Gl X "range") (hm : X.mg "range" = none) (ha : PA X [a] (LA X tr)) (hs : starEach [a] X.env = [(false, eval a X.env)] := by rfl) : PI X tg (.Call (.Name "range" p) [a] [] pos) (LI X (iRange1 tr)) := by
  refine pi_imp (pi_range1 hg hm ha hs) fun σ H R q => ?_
  obtain ⟨C, F, env, fp, S, q⟩ := q
  refine ⟨C, F, env, fp, S, tr.mono _ _ _ (fun ds e1 q F1 H1 fp1 vs S1 s1 r1 => ?_) q⟩
  split at q
  · rename_i j
    cases r1 with
    | cons r1 r2 =>
      cases r2
      cases r1
      obtain ⟨⟨q1, q2⟩, q⟩ := q
      exact ⟨j, rfl, by omega, by omega, q F1 H1 fp1 _ S1 s1 jokR⟩
  · exact q.elim
theorem di_range2 (hg : Gl X "range") (hm : X.mg "range" = none) (ha : PA X [a, b] (LA X tr)) (hs : starEach [a, b] X.env = [(false, eval a X.env), (false, eval b X.env)] := by rfl) (hs2 : starEach [b] X.env = [(false, eval b X.env)] := by rfl) : PI X tg (.Call (.Name "range" p) [a, b] [] pos) (LI X (iRange2 tr)) := by
  refine pi_imp (pi_range2 hg hm ha hs hs2) fun σ H R q => ?_
  obtain ⟨C, F, env, fp, S, q⟩ := q
  refine ⟨C, F, env, fp, S, tr.mono _ _ _ (fun ds e1 q F1 H1 fp1 vs S1 s1 r1 => ?_) q⟩
  split at q
  · rename_i i j
    cases r1 with
    | cons r1 r2 =>
      cases r2 with
      | cons r2 r3 =>
        cases r3
        cases r1
        cases r2
        obtain ⟨⟨q1, q2⟩, ⟨q3, q4⟩, q⟩ := q
        exact ⟨i, j, rfl, ⟨by omega, by omega, by omega, by omega⟩, q F1 H1 fp1 _ S1 s1 jokR⟩
  · exact q.elim
theorem di_range3 (hg : Gl X "range") (hm : X.mg "range" = none) (ha : PA X [a, b, c] (LA X tr)) (hs : starEach [a, b, c] X.env = (false, eval a X.env) :: starEach [b, c] X.env := by rfl) (hpl : (backTo pos (starEach [b, c] X.env)).any (·.1) = false := by rfl) : PI X tg (.Call (.Name "range" p) [a, b, c] [] pos) (LI X (iRange3 tr)) := by
  refine pi_imp (pi_range3 hg hm ha hs hpl) fun σ H R q => ?_
  obtain ⟨C, F, env, fp, S, q⟩ := q
  refine ⟨C, F, env, fp, S, tr.mono _ _ _ (fun ds e1 q F1 H1 fp1 vs S1 s1 r1 => ?_) q⟩
  split at q
  · rename_i i j k
    cases r1 with
    | cons r1 r2 =>
      cases r2 with
      | cons r2 r3 =>
        cases r3 with
        | cons r3 r4 =>
          cases r4
          cases r1
          cases r2
          cases r3
          obtain ⟨n, q1, q⟩ := q
          exact ⟨i, j, k, n, rfl, q1, q F1 H1 fp1 _ S1 s1 jokC⟩
  · exact q.elim
/-! ### reversed, enumerate, zip of lists -/
def iListArg (f : List D → List D) (as : DA) : DI where
  run env Q := as.run env fun ds e1 => match ds with
    | [.lst xs] => Q (f xs) e1
    | [.frz xs] => Q (f xs) e1
    | _ => False
  mono env Q Q' h q := by
    refine as.mono _ _ _ (fun ds e1 q => ?_) q
    split at q
    · exact h _ _ q
    · exact h _ _ q
    · exact q.elim
theorem jokV {F : Hp} {q : Addr} {vs : List V} {ds : List D} (h : SqL X.K F q vs) (r : Reps X.K X.mg F vs ds) : JOk X F (Itv X.K q vs.length) ds.reverse := by
  intro C k F1 H1 σ env fp S s
  have hq : SqL X.K H1 q vs := (s.trans S.fh).seq h
  refine ⟨fun d hd => ?_, fun hk => by rw [List.length_reverse, ← r.len] at hk; exact hk⟩
  have hk : k < ds.length := by
    have := (List.getElem?_eq_some_iff.mp hd).1
    rw [List.length_reverse] at this
    exact this
  rw [List.getElem?_reverse hk] at hd
  obtain ⟨v, h1, h2⟩ := r.get hd
  rw [← r.len] at h1 hk
  refine ⟨⟨hk, vs, v, hq, h1⟩, fun x H' y => ?_⟩
  obtain ⟨rfl, y⟩ := y
  have e1 := y vs hq
  rw [h1] at e1
  cases e1
  exact ⟨F1, S, Same.refl F1, h2.up s⟩
theorem di_rev (hg : Gl X "reversed") (hm : X.mg "reversed" = none) (ha : PA X [e] (LA X tr)) (hs : starEach [e] X.env = [(false, eval e X.env)] := by rfl) : PI X tg (.Call (.Name "reversed" p) [e] [] pos) (LI X (iListArg List.reverse tr)) := by
  refine pi_imp (pi_reversed hg hm ha hs) fun σ H R q => ?_
  obtain ⟨C, F, env, fp, S, q⟩ := q
  refine ⟨C, F, env, fp, S, tr.mono _ _ _ (fun ds e1 q F1 H1 fp1 vs S1 s1 r1 => ?_) q⟩
  split at q
  · cases r1 with
    | cons r1 r2 =>
      cases r2
      cases r1 with
      | lst h1 h2 => exact ⟨_, _, rfl, SqL.of (S1.fh _ _ h1), q F1 H1 fp1 _ S1 s1 (jokV (SqL.of h1) h2)⟩
  · cases r1 with
    | cons r1 r2 =>
      cases r2
      cases r1 with
      | frz h1 h2 => exact ⟨_, _, rfl, S1.fh.seq h1, q F1 H1 fp1 _ S1 s1 (jokV h1 h2)⟩
  · exact q.elim
def enumD (ds : List D) : List D := ds.zipIdx.map fun x => .tup [.int (x.2 : Nat), x.1]
theorem enumD_get {ds : List D} {k : Nat} : (enumD ds)[k]? = (ds[k]?).map fun d => .tup [.int (k : Nat), d] := by
  unfold enumD
  rw [List.getElem?_map, List.getElem?_zipIdx]
  cases ds[k]? with
  | none => rfl
  | some d => simp
theorem enumD_len {ds : List D} : (enumD ds).length = ds.length := by unfold enumD; rw [List.length_map, List.length_zipIdx]
theorem jokE {F : Hp} {q : Addr} {vs : List V} {ds : List D} (h : SqL X.K F q vs) (r : Reps X.K X.mg F vs ds) : JOk X F (Ite X.K q) (enumD ds) := by
  intro C k F1 H1 σ env fp S s
  have hq : SqL X.K H1 q vs := (s.trans S.fh).seq h
  refine ⟨fun d hd => ?_, fun hk => ⟨vs, hq, by rw [enumD_len] at hk; rw [r.len]; exact hk⟩⟩
  rw [enumD_get] at hd
  cases hdk : ds[k]? with
  | none => rw [hdk] at hd; cases hd
  | some d0 =>
    rw [hdk] at hd
    cases hd
    obtain ⟨v, h1, h2⟩ := r.get hdk
    refine ⟨⟨vs, v, hq, h1⟩, fun x H' y => ?_⟩
    obtain ⟨T, w, rfl, hT, rfl, y⟩ := y
    have e1 := y vs hq
    rw [h1] at e1
    cases e1
    have sf : Same F1 (upd F1 T (.tup [.int (k : Nat), v])) := same_upd (S.fresh hT).1
    exact ⟨_, S.new _ hT, sf, .tup (SqT.of upd_same) (.cons (.int _) (.cons (h2.up (s.trans sf)) .nil))⟩
theorem di_enum {elts : List Expr} {kk : Nat} {tpos : Pos} (hg : Gl X "enumerate") (hm : X.mg "enumerate" = none) (ha : PA X [e] (LA X tr)) (hs : starEach [e] X.env = [(false, eval e X.env)] := by rfl) : PI X (.Tuple elts kk tpos) (.Call (.Name "enumerate" p) [e] [] pos) (LI X (iListArg enumD tr)) := by
  refine pi_imp (pi_enum hg hm ha hs) fun σ H R q => ?_
  obtain ⟨C, F, env, fp, S, q⟩ := q
  refine ⟨C, F, env, fp, S, tr.mono _ _ _ (fun ds e1 q F1 H1 fp1 vs S1 s1 r1 => ?_) q⟩
  split at q
  · cases r1 with
    | cons r1 r2 =>
      cases r2
      cases r1 with
      | lst h1 h2 => exact ⟨_, _, rfl, SqL.of (S1.fh _ _ h1), q F1 H1 fp1 _ S1 s1 (jokE (SqL.of h1) h2)⟩
  · cases r1 with
    | cons r1 r2 =>
      cases r2
      cases r1 with
      | frz h1 h2 => exact ⟨_, _, rfl, S1.fh.seq h1, q F1 H1 fp1 _ S1 s1 (jokE h1 h2)⟩
  · exact q.elim
def zipD (xs ys : List D) : List D := List.zipWith (fun x y => .tup [x, y]) xs ys
theorem jokZ {F : Hp} {q q' : Addr} {vs ws : List V} {ds es : List D} (h : SqL X.K F q vs) (h' : SqL X.K F q' ws) (r : Reps X.K X.mg F vs ds) (r' : Reps X.K X.mg F ws es) : JOk X F (Itz X.K q q') (zipD ds es) := by
  intro C k F1 H1 σ env fp S s
  have hq : SqL X.K H1 q vs := (s.trans S.fh).seq h
  have hq' : SqL X.K H1 q' ws := (s.trans S.fh).seq h'
  refine ⟨fun d hd => ?_, fun hk => ⟨vs, ws, hq, hq', by unfold zipD at hk; rw [List.length_zipWith] at hk; rw [r.len, r'.len]; omega⟩⟩
  unfold zipD at hd
  rw [List.getElem?_zipWith] at hd
  cases h1 : ds[k]? with
  | none => rw [h1] at hd; cases hd
  | some d1 =>
    cases h2 : es[k]? with
    | none => rw [h1, h2] at hd; cases hd
    | some d2 =>
      rw [h1, h2] at hd
      cases hd
      obtain ⟨v, a1, a2⟩ := r.get h1
      obtain ⟨w, b1, b2⟩ := r'.get h2
      refine ⟨⟨vs, ws, v, w, hq, hq', a1, b1⟩, fun x H' y => ?_⟩
      obtain ⟨T, x1, x2, rfl, hT, rfl, y1, y2⟩ := y
      have e1 := y1 vs hq
      rw [a1] at e1
      cases e1
      have e2 := y2 ws hq'
      rw [b1] at e2
      cases e2
      have sf : Same F1 (upd F1 T (.tup [v, w])) := same_upd (S.fresh hT).1
      exact ⟨_, S.new _ hT, sf, .tup (SqT.of upd_same) (.cons (a2.up (s.trans sf)) (.cons (b2.up (s.trans sf)) .nil))⟩
def iZipD (as : DA) : DI where
  run env Q := as.run env fun ds e1 => match ds with
    | [.lst xs, .lst ys] => Q (zipD xs ys) e1
    | _ => False
  mono env Q Q' h q := by
    refine as.mono _ _ _ (fun ds e1 q => ?_) q
    split at q
    · exact h _ _ q
    · exact q.elim
theorem di_zip {e2 : Expr} {elts : List Expr} {kk : Nat} {tpos : Pos} (hg : Gl X "zip") (hm : X.mg "zip" = none) (ha : PA X [e, e2] (LA X tr)) (hs : starEach [e, e2] X.env = (false, eval e X.env) :: starEach [e2] X.env := by rfl) (hpl : (backTo pos (starEach [e2] X.env)).any (·.1) = false := by rfl) :
    PI X (.Tuple elts kk tpos) (.Call (.Name "zip" p) [e, e2] [] pos) (LI X (iZipD tr)) := by
  refine pi_imp (pi_zip hg hm ha hs hpl) fun σ H R q => ?_
  obtain ⟨C, F, env, fp, S, q⟩ := q
  refine ⟨C, F, env, fp, S, tr.mono _ _ _ (fun ds e1 q F1 H1 fp1 vs S1 s1 r1 => ?_) q⟩
  split at q
  · cases r1 with
    | cons r1 r2 =>
      cases r2 with
      | cons r2 r3 =>
        cases r3
        cases r1 with
        | lst h1 h2 =>
          cases r2 with
          | lst h3 h4 => exact ⟨_, _, _, _, rfl, SqL.of (S1.fh _ _ h1), SqL.of (S1.fh _ _ h3), q F1 H1 fp1 _ S1 s1 (jokZ (SqL.of h1) (SqL.of h3) h2 h4)⟩
  · exact q.elim

/-! ### list comprehensions -/
def wipeE (env : En) : List Nat → En
  | [] => env
  | v :: vs => (wipeE env vs).set v .no
def Sl.plain : Sl → Prop
  | .no => True
  | .sh _ => True
  | _ => False
/-- the block's own names get their values of before -/
def unwipe (env e0 : En) : List Nat → En
  | [] => env
  | v :: vs => (unwipe env e0 vs).set v (e0.getD v .no)
structure DTs where
  run : En → (Bool → En → Prop) → Prop
  mono : ∀ env (Q Q' : Bool → En → Prop), (∀ r e, Q r e → Q' r e) → run env Q → run env Q'
def tYesD : DT where
  run env Q := Q true env
  mono _ _ _ h q := h _ _ q
theorem dts_nil : PTs X [] (LT X tYesD) := ⟨fun pins s σ H Q I q => pts_nil.run pins s σ H Q I (by
  obtain ⟨C, F, env, fp, S, q⟩ := q
  exact q F H fp S (Same.refl F))⟩
theorem dts_one {t : DT} (h : PT X c (LT X t)) : PTs X [c] (LT X t) := pts_one h
theorem SR.wiped {K : PySem.W.Frag} {mg : Str → Option Value} {C : Cn} {F H : Hp} {σ : L2.St} {env : En} {fp : Nat → List Addr} (S : SR K mg C F H σ env fp) : ∀ vs : List Nat, ∃ fp', SR K mg C F H (wipe σ vs) (wipeE env vs) fp'
  | [] => ⟨fp, S⟩
  | v :: vs => by
    obtain ⟨fp', S'⟩ := S.wiped vs
    exact ⟨_, S'.forget v none⟩
theorem set_getD {α : Type} {l : List α} {i : Nat} {a : α} (h : l[i]? = some a) : l.set i a = l := by
  obtain ⟨h1, h2⟩ := List.getElem?_eq_some_iff.mp h
  subst h2
  exact List.set_getElem_self h1
/-- a slot gets back what it held -/
theorem SR.back {K : PySem.W.Frag} {mg : Str → Option Value} {C0 C : Cn} {F0 F H0 H : Hp} {σ0 σ : L2.St} {e0 env : En} {fp0 fp : Nat → List Addr} (S0 : SR K mg C0 F0 H0 σ0 e0 fp0) (s : Same F0 F) (S : SR K mg C F H σ env fp) {i : Nat} (hi : i < e0.length) (hp : (e0.getD i .no).plain) (o : Option V) (ho : σ0[i]? = some o) : ∃ fp', SR K mg C F H (σ.set i o) (env.set i (e0.getD i .no)) fp' := by
  have e1 : e0[i]? = some (e0.getD i .no) := by rw [List.getD_eq_getElem?_getD, List.getElem?_eq_getElem hi]; rfl
  have q := S0.sl i _ e1
  cases hs : e0.getD i .no with
  | no => exact ⟨_, S.forget i o⟩
  | sh d =>
    rw [hs] at q
    obtain ⟨_, v, b, c⟩ := q
    rw [ho] at b
    cases b
    exact ⟨_, S.setS (c.up s)⟩
  | ow _ => rw [hs] at hp; exact (show False from hp).elim
  | io _ => rw [hs] at hp; exact (show False from hp).elim
def unwipeS (σ σ0 : L2.St) : List Nat → L2.St
  | [] => σ
  | v :: vs => (unwipeS σ σ0 vs).set v ((σ0[v]?).getD none)
theorem unwipe_get {σ0 : L2.St} : ∀ {vs : List Nat} {σ : L2.St} (i : Nat), (∀ v ∈ vs, v < σ0.length) → σ.length = σ0.length → (∀ j, j ∉ vs → σ[j]? = σ0[j]?) → (unwipeS σ σ0 vs)[i]? = σ0[i]?
  | [], σ, i, _, _, h => h i (by simp)
  | v :: vs, σ, i, hv, hl, h => by
    have len : ∀ vs : List Nat, (unwipeS σ σ0 vs).length = σ.length := fun vs => by
      induction vs with
      | nil => rfl
      | cons w ws ih => show ((unwipeS σ σ0 ws).set w _).length = _; rw [List.length_set, ih]
    show ((unwipeS σ σ0 vs).set v ((σ0[v]?).getD none))[i]? = σ0[i]?
    by_cases e : v = i
    · subst e
      have hlt := hv v (by simp)
      rw [List.getElem?_set_self (by rw [len, hl]; exact hlt), List.getElem?_eq_getElem hlt]
      rfl
    · rw [List.getElem?_set_ne e]
      -- the rest: by parts
      have aux : ∀ (ws : List Nat), (unwipeS σ σ0 ws)[i]? = if i ∈ ws ∧ i < σ.length then some ((σ0[i]?).getD none) else σ[i]? := fun ws => by
        induction ws with
        | nil => rw [if_neg (by simp)]; rfl
        | cons w ws ih =>
          show ((unwipeS σ σ0 ws).set w ((σ0[w]?).getD none))[i]? = _
          by_cases ew : w = i
          · subst ew
            by_cases hlt : w < σ.length
            · rw [List.getElem?_set_self (by rw [len]; exact hlt), if_pos ⟨by simp, hlt⟩]
            · rw [List.getElem?_eq_none (by rw [List.length_set, len]; omega), if_neg (fun z => hlt z.2), List.getElem?_eq_none (by omega)]
          · rw [List.getElem?_set_ne ew, ih]
            have : i ∈ w :: ws ↔ i ∈ ws := by simp [Ne.symm ew]
            simp only [this]
      rw [aux vs]
      by_cases hi : i ∈ vs
      · have hlt := hv i (List.mem_cons_of_mem _ hi)
        rw [if_pos ⟨hi, by rw [hl]; exact hlt⟩, List.getElem?_eq_getElem hlt]
        rfl
      · rw [if_neg (fun z => hi z.1)]
        exact h i (by simp only [List.mem_cons, not_or]; exact ⟨Ne.symm e, hi⟩)
theorem unwipe_all {σ0 : L2.St} {vs : List Nat} (hv : ∀ v ∈ vs, v < σ0.length) : unwipeS (wipe σ0 vs) σ0 vs = σ0 := by
  apply List.ext_getElem?
  intro i
  exact unwipe_get i hv (wipe_length σ0 vs) fun j hj => wipe_out hj
theorem SR.unwiped {K : PySem.W.Frag} {mg : Str → Option Value} {C0 C : Cn} {F0 F H0 H : Hp} {σ0 σ : L2.St} {e0 env : En} {fp0 fp : Nat → List Addr} (S0 : SR K mg C0 F0 H0 σ0 e0 fp0) (s : Same F0 F) (S : SR K mg C F H σ env fp) : ∀ vs : List Nat, (∀ v ∈ vs, v < e0.length ∧ (e0.getD v .no).plain) →
    ∃ fp', SR K mg C F H (unwipeS σ σ0 vs) (unwipe env e0 vs) fp'
  | [], _ => ⟨fp, S⟩
  | v :: vs, h => by
    obtain ⟨fp', S'⟩ := S0.unwiped s S vs fun w hw => h w (List.mem_cons_of_mem _ hw)
    obtain ⟨h1, h2⟩ := h v (by simp)
    have hl : v < σ0.length := by rw [S0.ln]; exact h1
    exact S0.back s S' h1 h2 _ (by rw [List.getElem?_eq_getElem hl]; rfl)
/-- the list that is made, while the element is reckoned -/
def Cn.and (C : Cn) (t : Addr × HO) : Cn := { C with T := t :: C.T }
theorem SR.hide {K : PySem.W.Frag} {mg : Str → Option Value} {C : Cn} {F H : Hp} {σ : L2.St} {env : En} {fp : Nat → List Addr} (S : SR K mg C F H σ env fp) {q : Addr} {o : HO} (h : H q = some o) (h1 : F q = none) (h2 : C.B q = none) (h3 : ∀ i, q ∉ fp i) : SR K mg (C.and (q, o)) F H σ env fp where
  f0 := S.f0
  fh := S.fh
  bh := S.bh
  fn := S.fn
  ln := S.ln
  sl := fun i s e => by
    have := S.sl i s e
    cases s <;> exact this
  sep := S.sep
  out := fun i x hx => by
    obtain ⟨a, b, c⟩ := S.out i x hx
    refine ⟨a, b, fun t ht => ?_⟩
    rcases List.mem_cons.mp ht with rfl | ht
    · exact fun z => h3 i (by rw [show q = x from z]; exact hx)
    · exact c t ht
  iof := S.iof
  tm := fun t ht => by
    rcases List.mem_cons.mp ht with rfl | ht
    · exact ⟨h1, h2, h⟩
    · exact S.tm t ht
theorem SR.seek {K : PySem.W.Frag} {mg : Str → Option Value} {C : Cn} {F H : Hp} {σ : L2.St} {env : En} {fp : Nat → List Addr} {q : Addr} {o : HO} (S : SR K mg (C.and (q, o)) F H σ env fp) : SR K mg C F H σ env fp ∧ H q = some o ∧ F q = none ∧ C.B q = none ∧ (∀ i, q ∉ fp i) := by
  obtain ⟨a, b, c⟩ := S.tm (q, o) List.mem_cons_self
  refine ⟨⟨S.f0, S.fh, S.bh, S.fn, S.ln, fun i s e => ?_, S.sep, fun i x hx => ?_, S.iof, fun t ht => S.tm t (List.mem_cons_of_mem _ ht)⟩, c, a, b, fun i hx => (S.out i q hx).2.2 (q, o) List.mem_cons_self rfl⟩
  · have := S.sl i s e
    cases s <;> exact this
  · obtain ⟨a, b, c⟩ := S.out i x hx
    exact ⟨a, b, fun t ht => c t (List.mem_cons_of_mem _ ht)⟩
/-- an object that nothing speaks of is changed -/
theorem SR.other {K : PySem.W.Frag} {mg : Str → Option Value} {C : Cn} {F H : Hp} {σ : L2.St} {env : En} {fp : Nat → List Addr} (S : SR K mg C F H σ env fp) {q : Addr} {o : HO} (h1 : F q = none) (h2 : C.B q = none) (h3 : ∀ i, q ∉ fp i) (h4 : ∀ t ∈ C.T, t.1 ≠ q) : SR K mg C F (upd H q o) σ env fp where
  f0 := S.f0
  fh := fun a u e => by rw [upd_ne (ne_of_none e h1)]; exact S.fh a u e
  bh := fun a u n e => by rw [upd_ne (ne_of_none e h2)]; exact S.bh a u n e
  fn := S.fn
  ln := S.ln
  sl := fun i s e => (S.sl i s e).mono (Same.refl F) fun x hx => upd_ne fun z => h3 i (z ▸ hx)
  sep := S.sep
  out := fun i x hx => by
    obtain ⟨a, b, c⟩ := S.out i x hx
    have hx' : x ≠ q := fun z => h3 i (by rw [← z]; exact hx)
    exact ⟨a, by rw [upd_ne hx']; exact b, c⟩
  iof := fun x hx => by
    obtain ⟨a, b, c⟩ := S.iof x hx
    have hx' : x ≠ q := fun z => b (by rw [z]; exact h2)
    exact ⟨a, b, by rw [upd_ne hx']; exact c⟩
  tm := fun t ht => by
    obtain ⟨a, b, c⟩ := S.tm t ht
    exact ⟨a, b, by rw [upd_ne (h4 t ht)]; exact c⟩
theorem wipe_get (σ : L2.St) (j : Nat) : ∀ vs : List Nat, (wipe σ vs)[j]? = if j ∈ vs ∧ j < σ.length then some none else σ[j]?
  | [] => by rw [if_neg (by simp)]; rfl
  | v :: vs => by
    show ((wipe σ vs).set v none)[j]? = _
    by_cases e : v = j
    · subst e
      by_cases hlt : v < σ.length
      · rw [List.getElem?_set_self (by rw [wipe_length]; exact hlt), if_pos ⟨by simp, hlt⟩]
      · rw [List.getElem?_eq_none (by rw [List.length_set, wipe_length]; omega), if_neg (fun z => hlt z.2), List.getElem?_eq_none (by omega)]
    · rw [List.getElem?_set_ne e, wipe_get σ j vs]
      have : j ∈ v :: vs ↔ j ∈ vs := by simp [Ne.symm e]
      simp only [this]
theorem wipe_set {σ : L2.St} {i : Nat} {o : Option V} {vs : List Nat} (h : i ∈ vs) : wipe (σ.set i o) vs = wipe σ vs := by
  apply List.ext_getElem?
  intro j
  rw [wipe_get, wipe_get, List.length_set]
  by_cases hj : j ∈ vs ∧ j < σ.length
  · rw [if_pos hj, if_pos hj]
  · rw [if_neg hj, if_neg hj]
    by_cases e : i = j
    · subst e
      have : ¬ i < σ.length := fun z => hj ⟨h, z⟩
      rw [List.getElem?_eq_none (by rw [List.length_set]; omega), List.getElem?_eq_none (by omega)]
    · rw [List.getElem?_set_ne e]
theorem wipe_wipe {σ : L2.St} {vs : List Nat} : wipe (wipe σ vs) vs = wipe σ vs := by
  apply List.ext_getElem?
  intro j
  rw [wipe_get, wipe_length]
  by_cases hj : j ∈ vs ∧ j < σ.length
  · rw [if_pos hj, wipe_get, if_pos hj]
  · rw [if_neg hj]
/-- a comprehension's target: a name, two names, three names -/
inductive CT where
  | one (i : Nat) | two (i j : Nat) | three (i j k : Nat)
def CT.run : CT → D → En → (En → Prop) → Prop
  | .one i, x, e, k => k (e.set i (.sh x))
  | .two i j, .tup [x, y], e, k => k ((e.set i (.sh x)).set j (.sh y))
  | .three i j l, .tup [x, y, z], e, k => k (((e.set i (.sh x)).set j (.sh y)).set l (.sh z))
  | _, _, _, _ => False
def CT.g (K : PySem.W.Frag) : CT → TG
  | .one i => gName i
  | .two i j => gTup K 2 (gCons (gName i) (gCons (gName j) gNil))
  | .three i j k => gTup K 3 (gCons (gName i) (gCons (gName j) (gCons (gName k) gNil)))
def CT.inV : CT → List Nat → Prop
  | .one i, vs => i ∈ vs
  | .two i j, vs => i ∈ vs ∧ j ∈ vs
  | .three i j k, vs => i ∈ vs ∧ j ∈ vs ∧ k ∈ vs
theorem ct_ok {C : Cn} {F H : Hp} {σ : L2.St} {env : En} {fp : Nat → List Addr} {v : V} {x : D} (S : SR X.K X.mg C F H σ env fp) (r : Rep X.K X.mg F v x) : ∀ {t : CT} {vs : List Nat} {k : En → Prop}, t.inV vs → t.run x env k →
    t.g X.K v σ H fun σ2 H2 => wipe σ2 vs = wipe σ vs ∧ H2 = H ∧ ∃ fp2 e2, SR X.K X.mg C F H σ2 e2 fp2 ∧ k e2
  | .one i, vs, k, hv, q => ⟨wipe_set hv, rfl, _, _, S.setS r, q⟩
  | .two i j, vs, k, hv, q => by
    cases r with
    | tup h1 h2 =>
      cases h2 with
      | nil => exact (show False from q).elim
      | cons r1 h2 =>
        cases h2 with
        | nil => exact (show False from q).elim
        | cons r2 h2 =>
          cases h2 with
          | nil => exact ⟨_, _, rfl, same_t S.fh h1, rfl, _, _, rfl, _, _, rfl, rfl, by rw [wipe_set hv.2, wipe_set hv.1], rfl, _, _, (S.setS r1).setS r2, q⟩
          | cons _ _ => exact (show False from q).elim
    | _ => exact (show False from q).elim
  | .three i j l, vs, k, hv, q => by
    cases r with
    | tup h1 h2 =>
      cases h2 with
      | nil => exact (show False from q).elim
      | cons r1 h2 =>
        cases h2 with
        | nil => exact (show False from q).elim
        | cons r2 h2 =>
          cases h2 with
          | nil => exact (show False from q).elim
          | cons r3 h2 =>
            cases h2 with
            | nil => exact ⟨_, _, rfl, same_t S.fh h1, rfl, _, _, rfl, _, _, rfl, _, _, rfl, rfl, by rw [wipe_set hv.2.2, wipe_set hv.2.1, wipe_set hv.1], rfl, _, _, ((S.setS r1).setS r2).setS r3, q⟩
            | cons _ _ => exact (show False from q).elim
    | _ => exact (show False from q).elim
def eLc (di : DI) (g : CT) (c : DT) (e : DE) (vs : List Nat) : DE where
  run env Q := di.run env fun items e0 => (∀ v ∈ vs, v < e0.length ∧ (e0.getD v .no).plain) ∧ ∃ W : Nat → List D → En → Prop, W 0 [] (wipeE e0 vs) ∧
    (∀ k x out e1, items[k]? = some x → W k out e1 → g.run x e1 fun e2 => c.run e2 fun b e3 => if b = true then e.run e3 fun r e4 => dat e4 r fun d e5 => out.length < 1000000 ∧ W (k + 1) (out ++ [d]) (wipeE e5 vs) else W (k + 1) out (wipeE e3 vs)) ∧
    ∀ out e1, W items.length out e1 → Q (.fr out) (unwipe e1 e0 vs)
  mono env Q Q' h q := by
    refine di.mono _ _ _ (fun items e0 q => ?_) q
    obtain ⟨q0, W, w0, hs, hd⟩ := q
    exact ⟨q0, W, w0, hs, fun out e1 w => h _ _ (hd out e1 w)⟩
theorem tg_mono {K : PySem.W.Frag} {v : V} {σ : L2.St} {H : Hp} {Q Q' : L2.St → Hp → Prop} (h : ∀ σ H, Q σ H → Q' σ H) : ∀ t : CT, t.g K v σ H Q → t.g K v σ H Q'
  | .one _, q => h _ _ q
  | .two _ _, ⟨a, b, c, d, e, f1, f2, f3, g1, g2, g3, k1, k2⟩ => ⟨a, b, c, d, e, f1, f2, f3, g1, g2, g3, k1, h _ _ k2⟩
  | .three _ _ _, ⟨a, b, c, d, e, f1, f2, f3, g1, g2, g3, k1, k2, k3, l1, l2⟩ => ⟨a, b, c, d, e, f1, f2, f3, g1, g2, g3, k1, k2, k3, l1, h _ _ l2⟩
theorem lc_down {di : DI} {g : CT} {tc : DT} {vs : List Nat} (hin : g.inV vs) {σ : L2.St} {H : Hp} {Q : VK} (q : LE X (eLc di g tc te vs) σ H Q) : tLc (LI X di) (g.g X.K) (LT X tc) (LE X te) vs σ H Q := by
  obtain ⟨C, F, env, fp, S, q⟩ := q
  refine ⟨C, F, env, fp, S, di.mono _ _ _ (fun items e0 q F0 H0 fp0 J S0 s0 jk => ?_) q⟩
  obtain ⟨q0, W, w0, hs, hd⟩ := q
  intro q hq
  obtain ⟨f1, f2, f3, f4, f5⟩ := S0.fresh hq
  refine ⟨fun k m H => m = items.length - k ∧ k ≤ items.length ∧ ∃ F1 e1 fp1 out ws, SR X.K X.mg C F1 H (wipe σ vs) e1 fp1 ∧ Same F0 F1 ∧ W k out e1 ∧ H q = some (.lst ws) ∧ Reps X.K X.mg F1 ws out ∧ F1 q = none ∧ ∀ i, q ∉ fp1 i, ?_, ?_⟩
  · have S1 : SR X.K X.mg (C.and (q, .lst [])) F0 (upd H0 q (.lst [])) σ e0 fp0 := (S0.more (.lst []) hq).hide upd_same f1 f2 f4
    obtain ⟨fp1, S2⟩ := S1.wiped vs
    obtain ⟨S3, h1, h2, _, h3⟩ := S2.seek
    exact ⟨_, rfl, Nat.zero_le _, F0, _, fp1, [], [], S3, Same.refl F0, w0, h1, .nil, h2, h3⟩
  · rintro k m H ⟨rfl, hk, F1, e1, fp1, out, ws, S1, s1, w, hH, hr, hF, hfp⟩
    have Sh : SR X.K X.mg (C.and (q, .lst ws)) F1 H (wipe σ vs) e1 fp1 := S1.hide hH hF f2 hfp
    obtain ⟨j1, j2⟩ := jk _ k F1 H _ e1 fp1 Sh s1
    by_cases hlt : k < items.length
    · refine .inr ?_
      obtain ⟨g1, g2⟩ := j1 items[k] (List.getElem?_eq_getElem hlt)
      refine ⟨g1, fun H => k + 1 ≤ items.length ∧ ∃ F1 e1 fp1 out ws, SR X.K X.mg C F1 H (wipe σ vs) e1 fp1 ∧ Same F0 F1 ∧ W (k + 1) out e1 ∧ H q = some (.lst ws) ∧ Reps X.K X.mg F1 ws out ∧ F1 q = none ∧ ∀ i, q ∉ fp1 i, fun H' n => ⟨items.length - (k + 1), by omega, rfl, n⟩, fun x H' y => ?_⟩
      obtain ⟨F2, S2, s2, r2⟩ := g2 x H' y
      refine tg_mono (fun σ2 H2 z => ?_) g (ct_ok S2 r2 hin (hs k _ out e1 (List.getElem?_eq_getElem hlt) w))
      obtain ⟨zw, rfl, fp2, e2, S3, p⟩ := z
      rw [wipe_wipe] at zw
      refine ⟨zw, C.and (q, .lst ws), F2, e2, fp2, S3, tc.mono _ _ _ (fun b e3 p F4 H4 fp4 S4 s4 => ?_) p⟩
      cases b with
      | false =>
        obtain ⟨fp5, S5⟩ := S4.wiped vs
        rw [zw] at S5
        obtain ⟨S6, h1, h2, _, h3⟩ := S5.seek
        exact ⟨hlt, F4, _, fp5, out, ws, S6, (s1.trans s2).trans s4, p, h1, hr.up (s2.trans s4), h2, h3⟩
      | true =>
        refine ⟨C.and (q, .lst ws), F4, e3, fp4, S4, te.mono _ _ _ (fun r e4 p F5 H5 fp5 y S5 s5 r5 => ?_) p⟩
        obtain ⟨F6, e5, fp6, d, S6, s6, r6, pl, pw⟩ := dat_ok S5 r5 p
        obtain ⟨fp7, S7⟩ := S6.wiped vs
        rw [zw] at S7
        obtain ⟨S8, h1, h2, _, h3⟩ := S7.seek
        have hl : ws.length < sizeLine := by rw [hr.len]; exact Nat.lt_trans pl (by decide)
        exact ⟨ws, h1, hl, hlt, F6, _, fp7, out ++ [d], ws ++ [y], S8.other h2 f2 h3 f5, ((((s1.trans s2).trans s4).trans s5).trans s6), pw, upd_same, (hr.up (((s2.trans s4).trans s5).trans s6)).app (.cons r6 .nil), h2, h3⟩
    · have e : k = items.length := by omega
      subst e
      obtain ⟨fp2, S2⟩ := S0.unwiped s1 Sh vs q0
      rw [unwipe_all (fun v hv => by rw [S0.ln]; exact (q0 v hv).1)] at S2
      obtain ⟨S3, h1, h2, _, h3⟩ := S2.seek
      exact .inl ⟨j2 (Nat.le_refl _), hd out e1 w F1 H fp2 _ S3 (s0.trans s1) ⟨q, ws, rfl, h2, f2, h1, hr, h3, f5⟩⟩
section
variable {iter elt : Expr} {ifs : List Expr} {scope : Scope} {own : List (Str × Nat)} {di : DI} {g : CT} {tc : DT}
theorem de_lc (hc : X.calm = true) (hN : X.N.Nodup) (hi : PI X tg iter (LI X di)) (ok : BlkOk X.N X.env.scope scope own) (hin : g.inV (own.map (·.2)))
    (hg : ∀ (s : Shared) (H : Hp) (C : Addr) (cl : List (Str × Addr)) (fp : List Addr), PG (X.blk s H scope (compEnvC scope cl C X.env) fp) tg (g.g X.K)) (ht : ∀ (s : Shared) (H : Hp) (C : Addr) (cl : List (Str × Addr)) (fp : List Addr), PTs (X.blk s H scope (compEnvC scope cl C X.env) fp) ifs (LT X tc))
    (he : ∀ (s : Shared) (H : Hp) (C : Addr) (cl : List (Str × Addr)) (fp : List Addr), PE (X.blk s H scope (compEnvC scope cl C X.env) fp) elt (LE X te)) (hs : ∀ x, foldedSetIterable iter X.env x = pure x := by intro _; rfl) :
    PE X (.ListComp elt [⟨tg, iter, ifs, 0⟩] scope pos) (LE X (eLc di g tc te (own.map (·.2)))) :=
  pe_imp (pe_lc hc hN hi ok hg ht he hs) fun σ H Q q => lc_down hin q
/-- name = [..] on one line -/
theorem ds_setLc {i : Nat} {y : Str} {py spos : Pos} (hc : X.calm = true) (hN : X.N.Nodup) (hy : X.N[i]? = some y) (hyl : X.env.scope.names.lookup y = some .local)
    (hsw : swapsWith (.ListComp elt [⟨tg, iter, ifs, 0⟩] scope pos) (some (.Name y py)) spos.line X.env = pure true) (hi : PI X tg iter (LI X di)) (ok : BlkOk X.N X.env.scope scope own) (hin : g.inV (own.map (·.2)))
    (hg : ∀ (s : Shared) (H : Hp) (C : Addr) (cl : List (Str × Addr)) (fp : List Addr), PG (X.blk s H scope (compEnvC scope cl C X.env) fp) tg (g.g X.K)) (ht : ∀ (s : Shared) (H : Hp) (C : Addr) (cl : List (Str × Addr)) (fp : List Addr), PTs (X.blk s H scope (compEnvC scope cl C X.env) fp) ifs (LT X tc))
    (he : ∀ (s : Shared) (H : Hp) (C : Addr) (cl : List (Str × Addr)) (fp : List Addr), PE (X.blk s H scope (compEnvC scope cl C X.env) fp) elt (LE X te)) (hs : ∀ x, foldedSetIterable iter X.env x = pure x := by intro _; rfl) :
    PS X (.Assign [.Name y py] (.ListComp elt [⟨tg, iter, ifs, 0⟩] scope pos) spos) (LS X (sSet i (eLc di g tc te (own.map (·.2))))) := by
  exact ps_imp (ps_setLc hc hN hy hyl hsw hi ok hg ht he hs) fun D σ H q => lc_down (Q := fun x H1 => gName i x σ H1 D.nx) hin (set_down q)
theorem ds_ownLc {i : Nat} {y : Str} {py spos : Pos} (hc : X.calm = true) (hN : X.N.Nodup) (hy : X.N[i]? = some y) (hyl : X.env.scope.names.lookup y = some .local)
    (hsw : swapsWith (.ListComp elt [⟨tg, iter, ifs, 0⟩] scope pos) (some (.Name y py)) spos.line X.env = pure true) (hi : PI X tg iter (LI X di)) (ok : BlkOk X.N X.env.scope scope own) (hin : g.inV (own.map (·.2)))
    (hg : ∀ (s : Shared) (H : Hp) (C : Addr) (cl : List (Str × Addr)) (fp : List Addr), PG (X.blk s H scope (compEnvC scope cl C X.env) fp) tg (g.g X.K)) (ht : ∀ (s : Shared) (H : Hp) (C : Addr) (cl : List (Str × Addr)) (fp : List Addr), PTs (X.blk s H scope (compEnvC scope cl C X.env) fp) ifs (LT X tc))
    (he : ∀ (s : Shared) (H : Hp) (C : Addr) (cl : List (Str × Addr)) (fp : List Addr), PE (X.blk s H scope (compEnvC scope cl C X.env) fp) elt (LE X te)) (hs : ∀ x, foldedSetIterable iter X.env x = pure x := by intro _; rfl) :
    PS X (.Assign [.Name y py] (.ListComp elt [⟨tg, iter, ifs, 0⟩] scope pos) spos) (LS X (sOwn i (eLc di g tc te (own.map (·.2))))) := by
  exact ps_imp (ps_setLc hc hN hy hyl hsw hi ok hg ht he hs) fun D σ H q => lc_down (Q := fun x H1 => gName i x σ H1 D.nx) hin (own_down q)
end
end
end Dn

set_option Elab.async false
set_option linter.all false
set_option maxRecDepth 100000
set_option maxHeartbeats 4000000
/-! Dn, part 8: methods of lists, defs. -/
namespace Dn
open PySem PySem.Spec PyProof.Rows L2
section
variable {X : Cx} {o e a b c : Expr} {te ta tb : DE} {tr : DA} {pos apos cpos : Pos} {j : Nat}

/-- xs.append(e) -/
def eApp (j : Nat) (e : DE) : DE where
  run env Q := (ownAt env j).isSome = true ∧ e.run env fun r e1 => dat e1 r fun d e2 => match ownAt e2 j with
    | some xs => xs.length < 1000000 ∧ Q (.sh .non) (putAt e2 j (xs ++ [d]))
    | none => False
  mono env Q Q' h q := by
    refine ⟨q.1, e.mono _ _ _ (fun r e1 q => dat_mono (fun d e2 q => ?_) q) q.2⟩
    split at q
    · exact ⟨q.1, h _ _ q.2⟩
    · exact q.elim
theorem sr_own {K : PySem.W.Frag} {mg : Str → Option Value} {C : Cn} {F H : Hp} {σ : L2.St} {env : En} {fp : Nat → List Addr} (S : SR K mg C F H σ env fp) {i : Nat} {xs : List D} (h : ownAt env i = some xs) : ∃ p vs, σ[i]? = some (some (.ref p)) ∧ H p = some (.lst vs) ∧ Reps K mg F vs xs ∧
    ∀ ws ys, Reps K mg F ws ys → SR K mg C F (upd H p (.lst ws)) σ (putAt env i ys) fp := by
  obtain ⟨s, a, b, c⟩ := ownAt_sl h
  obtain ⟨p, vs, _, hp, d, r⟩ := S.ownAt a b
  exact ⟨p, vs, hp, d, r, fun ws ys q => by rw [c]; exact S.write a b hp q⟩
theorem de_app (ho : PE X o (tVar j)) (ha : PE X e (LE X te))
    (hbase : attributeBase o "append" X.env (eval o X.env) = eval o X.env := by rfl)
    (hfew : ((backTo cpos (starEach [e] X.env)).all (fun x => !x.1) && (backToKw cpos (keywordEach [] X.env)).all (fun x => x.1.isSome)
      && decide (([e] : List Expr).length + ([] : List Keyword).length + (if ([] : List Keyword).isEmpty then 0 else 1) < 30)) = true := by rfl)
    (hline : (apos.endLine == cpos.line) = true := by rfl) (hs : starEach [e] X.env = (false, eval e X.env) :: starEach [] X.env := by rfl) (hplain : (backTo cpos (starEach [] X.env)).any (·.1) = false := by rfl) :
    PE X (.Call (.Attribute o "append" apos) [e] [] cpos) (LE X (eApp j te)) := by
  refine pe_imp (pe_bm PySem.F.plainAttrs_list PySem.F.slot_list_append PySem.F.type_list_append mt_append ho (pa_cons ha pa_nil hs) hbase hfew hline hs hplain) fun σ H Q q => ?_
  obtain ⟨C, F, env, fp, S, q0, q⟩ := q
  obtain ⟨xs0, h0⟩ := Option.isSome_iff_exists.mp q0
  obtain ⟨p, vs0, hp, d0, _⟩ := sr_own S h0
  refine ⟨.ref p, hp, .inl ⟨rfl, _, SqL.of d0⟩, C, F, env, fp, S, te.mono _ _ _ (fun r e1 q F1 H1 fp1 v S1 s1 r1 => ?_) q⟩
  obtain ⟨F2, e2, fp2, d, S2, s2, r2, q⟩ := dat_ok S1 r1 q
  split at q
  · rename_i xs hxs
    obtain ⟨p', ws, hp', d1, r3, wr⟩ := sr_own S2 hxs
    rw [hp] at hp'
    cases hp'
    exact ⟨p, ws, v, rfl, rfl, d1, by rw [r3.len]; exact Nat.lt_trans q.1 (by decide), q.2 F2 _ fp2 _ (wr _ _ (r3.app (.cons r2 .nil))) (s1.trans s2) .non⟩
  · exact q.elim
/-- xs.pop() -/
def ePop (j : Nat) : DE where
  run env Q := match ownAt env j with
    | some xs => (xs.getLast?).isSome = true ∧ Q (.sh (xs.getLast?.getD .non)) (putAt env j xs.dropLast)
    | none => False
  mono env Q Q' h q := by
    split at q
    · exact ⟨q.1, h _ _ q.2⟩
    · exact q.elim
theorem reps_last {K : PySem.W.Frag} {mg : Str → Option Value} {F : Hp} {vs : List V} {ds : List D} (r : Reps K mg F vs ds) (h : (ds.getLast?).isSome = true) : ∃ y, vs[vs.length - 1]? = some y ∧ Rep K mg F y (ds.getLast?.getD .non) ∧ Reps K mg F vs.dropLast ds.dropLast := by
  obtain ⟨d, hd⟩ := Option.isSome_iff_exists.mp h
  rw [List.getLast?_eq_getElem?] at hd
  obtain ⟨y, h1, h2⟩ := r.get hd
  rw [← r.len] at h1
  refine ⟨y, h1, by rw [List.getLast?_eq_getElem?, hd]; exact h2, ?_⟩
  rw [List.dropLast_eq_take, List.dropLast_eq_take, r.len]
  exact r.take _
theorem de_pop (ho : PE X o (tVar j)) (hbase : attributeBase o "pop" X.env (eval o X.env) = eval o X.env := by rfl) (hline : (apos.endLine == cpos.line) = true := by rfl) :
    PE X (.Call (.Attribute o "pop" apos) [] [] cpos) (LE X (ePop j)) := by
  refine pe_imp (pe_bm0 PySem.F.plainAttrs_list PySem.F.slot_list_pop PySem.F.type_list_pop mt_pop ho hbase hline) fun σ H Q q => ?_
  obtain ⟨C, F, env, fp, S, q⟩ := q
  have q : (match ownAt env j with
    | some xs => (xs.getLast?).isSome = true ∧ EPost X C F σ Q (.sh (xs.getLast?.getD .non)) (putAt env j xs.dropLast)
    | none => False) := q
  split at q
  · rename_i xs hxs
    obtain ⟨p, vs, hp, d, r, wr⟩ := sr_own S hxs
    obtain ⟨y, h1, h2, h3⟩ := reps_last r q.1
    exact ⟨.ref p, hp, .inl ⟨rfl, _, SqL.of d⟩, p, vs, y, rfl, rfl, d, h1, q.2 F _ fp y (wr _ _ h3) (Same.refl F) h2⟩
  · exact q.elim
/-- xs.pop(k) -/
def ePopAt (j : Nat) (k : DE) : DE where
  run env Q := (ownAt env j).isSome = true ∧ k.run env fun r e1 => match r, ownAt e1 j with
    | .sh (.int i), some xs => Sm i ∧ ∃ n, seqIndex? i xs.length = some n ∧ (xs[n]?).isSome = true ∧ Q (.sh (xs[n]?.getD .non)) (putAt e1 j (xs.eraseIdx n))
    | _, _ => False
  mono env Q Q' h q := by
    refine ⟨q.1, k.mono _ _ _ (fun r e1 q => ?_) q.2⟩
    split at q
    · obtain ⟨q1, n, q2, q3, q4⟩ := q
      exact ⟨q1, n, q2, q3, h _ _ q4⟩
    · exact q.elim
theorem Reps.erase {K : PySem.W.Frag} {mg : Str → Option Value} {F : Hp} : ∀ {vs : List V} {ds : List D} (i : Nat), Reps K mg F vs ds → Reps K mg F (vs.eraseIdx i) (ds.eraseIdx i)
  | _, _, _, .nil => .nil
  | _, _, 0, .cons _ t => t
  | _, _, i + 1, .cons q t => .cons q (t.erase i)
theorem de_popAt (ho : PE X o (tVar j)) (ha : PE X e (LE X te))
    (hbase : attributeBase o "pop" X.env (eval o X.env) = eval o X.env := by rfl)
    (hfew : ((backTo cpos (starEach [e] X.env)).all (fun x => !x.1) && (backToKw cpos (keywordEach [] X.env)).all (fun x => x.1.isSome)
      && decide (([e] : List Expr).length + ([] : List Keyword).length + (if ([] : List Keyword).isEmpty then 0 else 1) < 30)) = true := by rfl)
    (hline : (apos.endLine == cpos.line) = true := by rfl) (hs : starEach [e] X.env = (false, eval e X.env) :: starEach [] X.env := by rfl) (hplain : (backTo cpos (starEach [] X.env)).any (·.1) = false := by rfl) :
    PE X (.Call (.Attribute o "pop" apos) [e] [] cpos) (LE X (ePopAt j te)) := by
  refine pe_imp (pe_bm PySem.F.plainAttrs_list PySem.F.slot_list_pop PySem.F.type_list_pop mt_popAt ho (pa_cons ha pa_nil hs) hbase hfew hline hs hplain) fun σ H Q q => ?_
  obtain ⟨C, F, env, fp, S, q0, q⟩ := q
  obtain ⟨xs0, h0⟩ := Option.isSome_iff_exists.mp q0
  obtain ⟨p, vs0, hp, d0, _⟩ := sr_own S h0
  refine ⟨.ref p, hp, .inl ⟨rfl, _, SqL.of d0⟩, C, F, env, fp, S, te.mono _ _ _ (fun r e1 q F1 H1 fp1 v S1 s1 r1 => ?_) q⟩
  split at q
  · rename_i i xs hxs
    cases r1
    obtain ⟨⟨b1, b2⟩, n, hn, hd, q⟩ := q
    obtain ⟨p', ws, hp', d1, r3, wr⟩ := sr_own S1 hxs
    rw [hp] at hp'
    cases hp'
    obtain ⟨d, hd⟩ := Option.isSome_iff_exists.mp hd
    obtain ⟨y, h1, h2⟩ := r3.get hd
    rw [hd] at q
    exact ⟨p, ws, i, n, y, rfl, rfl, d1, by omega, by omega, by rw [r3.len]; exact hn, h1, q F1 _ fp1 y (wr _ _ (r3.erase n)) s1 h2⟩
  · exact q.elim
/-- xs.extend(ys), ys a list -/
def eExt (j : Nat) (e : DE) : DE where
  run env Q := (ownAt env j).isSome = true ∧ e.run env fun r e1 => dat e1 r fun d e2 => match d, ownAt e2 j with
    | .lst ys, some xs => xs.length + ys.length ≤ 1000000 ∧ Q (.sh .non) (putAt e2 j (xs ++ ys))
    | _, _ => False
  mono env Q Q' h q := by
    refine ⟨q.1, e.mono _ _ _ (fun r e1 q => dat_mono (fun d e2 q => ?_) q) q.2⟩
    split at q
    · exact ⟨q.1, h _ _ q.2⟩
    · exact q.elim
theorem de_ext (ho : PE X o (tVar j)) (ha : PE X e (LE X te))
    (hbase : attributeBase o "extend" X.env (eval o X.env) = eval o X.env := by rfl)
    (hfew : ((backTo cpos (starEach [e] X.env)).all (fun x => !x.1) && (backToKw cpos (keywordEach [] X.env)).all (fun x => x.1.isSome)
      && decide (([e] : List Expr).length + ([] : List Keyword).length + (if ([] : List Keyword).isEmpty then 0 else 1) < 30)) = true := by rfl)
    (hline : (apos.endLine == cpos.line) = true := by rfl) (hs : starEach [e] X.env = (false, eval e X.env) :: starEach [] X.env := by rfl) (hplain : (backTo cpos (starEach [] X.env)).any (·.1) = false := by rfl) :
    PE X (.Call (.Attribute o "extend" apos) [e] [] cpos) (LE X (eExt j te)) := by
  refine pe_imp (pe_bm PySem.F.plainAttrs_list PySem.F.slot_list_extend PySem.F.type_list_extend mt_extend ho (pa_cons ha pa_nil hs) hbase hfew hline hs hplain) fun σ H Q q => ?_
  obtain ⟨C, F, env, fp, S, q0, q⟩ := q
  obtain ⟨xs0, h0⟩ := Option.isSome_iff_exists.mp q0
  obtain ⟨p, vs0, hp, d0, _⟩ := sr_own S h0
  refine ⟨.ref p, hp, .inl ⟨rfl, _, SqL.of d0⟩, C, F, env, fp, S, te.mono _ _ _ (fun r e1 q F1 H1 fp1 v S1 s1 r1 => ?_) q⟩
  obtain ⟨F2, e2, fp2, d, S2, s2, r2, q⟩ := dat_ok S1 r1 q
  split at q
  · rename_i ys xs hxs
    obtain ⟨p', ws, hp', d1, r3, wr⟩ := sr_own S2 hxs
    rw [hp] at hp'
    cases hp'
    cases r2 with
    | lst h1 h2 =>
      exact ⟨p, _, ws, _, rfl, rfl, d1, S2.fh _ _ h1, lim_line (by rw [r3.len, h2.len]; exact q.1), q.2 F2 _ fp2 _ (wr _ _ (r3.app h2)) (s1.trans s2) .non⟩
  · exact q.elim
/-- xs.reverse() -/
def eRev (j : Nat) : DE where
  run env Q := match ownAt env j with
    | some xs => Q (.sh .non) (putAt env j xs.reverse)
    | none => False
  mono env Q Q' h q := by
    split at q
    · exact h _ _ q
    · exact q.elim
theorem de_rev (ho : PE X o (tVar j)) (hbase : attributeBase o "reverse" X.env (eval o X.env) = eval o X.env := by rfl) (hline : (apos.endLine == cpos.line) = true := by rfl) :
    PE X (.Call (.Attribute o "reverse" apos) [] [] cpos) (LE X (eRev j)) := by
  refine pe_imp (pe_bm0 PySem.F.plainAttrs_list PySem.F.slot_list_reverse PySem.F.type_list_reverse mt_reverse ho hbase hline) fun σ H Q q => ?_
  obtain ⟨C, F, env, fp, S, q⟩ := q
  have q : (match ownAt env j with
    | some xs => EPost X C F σ Q (.sh .non) (putAt env j xs.reverse)
    | none => False) := q
  split at q
  · rename_i xs hxs
    obtain ⟨p, vs, hp, d, r, wr⟩ := sr_own S hxs
    exact ⟨.ref p, hp, .inl ⟨rfl, _, SqL.of d⟩, p, vs, rfl, rfl, d, q F _ fp _ (wr _ _ r.rev) (Same.refl F) .non⟩
  · exact q.elim
end

/-! ### defs -/
def entry (n : Nat) (ds : List D) : En := ds.map Sl.sh ++ List.replicate (n - ds.length) Sl.no
def entryS (n : Nat) (xs ds : List D) : En := Sl.io xs :: (ds.map Sl.sh ++ List.replicate (n - 1 - ds.length) Sl.no)
def retE (post : Rv → Prop) : DEnds where
  nx _ := post (.sh .non)
  rt r _ := match r with
    | .bo _ => False
    | r => post r
  bk _ := False
  ct _ := False
def retS (post : Rv → List D → Prop) : DEnds where
  nx e := match (e : En)[0]? with
    | some (Sl.io ys) => post (.sh .non) ys
    | _ => False
  rt r e := match r with
    | .bo _ => False
    | r => match (e : En)[0]? with
      | some (Sl.io ys) => post r ys
      | _ => False
  bk _ := False
  ct _ := False
/-- the body's denotation keeps the promise -/
def Spec.Ok (s : Spec) (n : Nat) (d : DS) : Prop := ∀ x, s.pre x → d.run (retE (s.post x)) (entry n (s.args x))
def SpecS.Ok (s : SpecS) (n : Nat) (d : DS) : Prop := ∀ x, s.pre x → d.run (retS (s.post x)) (entryS n (s.st x) (s.args x))
theorem start_get {N : List Str} {vs : List V} {i : Nat} {v : V} (h : vs[i]? = some v) : (start N vs)[i]? = some (some v) := by
  unfold L2.start
  have hi : i < vs.length := (List.getElem?_eq_some_iff.mp h).1
  rw [List.getElem?_append_left (by simpa using hi), List.getElem?_map, h]
  rfl
section
variable {P : Program} {w : World} {K : PySem.W.Frag} {mg : Str → Option Value} {base : Heap}
theorem sr_entry {N : List Str} {F H : Hp} {vs : List V} {ds : List D} (fh : Same F H) (r : Reps K mg F vs ds) (hn : vs.length ≤ N.length) : SR K mg ⟨F, H, [], []⟩ F H (start N vs) (entry N.length ds) (fun _ => []) where
  f0 := Same.refl F
  fh := fh
  bh := fun a o _ e => e
  fn := fun a h => .inl h
  ln := by
    unfold L2.start entry
    rw [List.length_append, List.length_append, List.length_map, List.length_map, List.length_replicate, List.length_replicate, r.len]
  sl := fun i s e => by
    unfold entry at e
    by_cases hi : i < ds.length
    · rw [List.getElem?_append_left (by simpa using hi), List.getElem?_map, List.getElem?_eq_getElem hi] at e
      cases e
      obtain ⟨v, h1, h2⟩ := r.get (List.getElem?_eq_getElem hi)
      exact ⟨rfl, v, start_get h1, h2⟩
    · rw [List.getElem?_append_right (by simpa using hi), List.getElem?_replicate] at e
      split at e
      · cases e; rfl
      · cases e
  sep := fun i j p h => by cases h
  out := fun i p h => by cases h
  iof := fun p h => by cases h
  tm := fun t h => by cases h
theorem sr_entryS {N : List Str} {F H : Hp} {p : Addr} {ws vs : List V} {xs ds : List D} (fh : Same F H) (h1 : F p = none) (h2 : H p = some (.lst ws)) (h3 : Reps K mg F ws xs) (r : Reps K mg F vs ds) (hn : vs.length + 1 ≤ N.length) :
    SR K mg ⟨F, H, [p], []⟩ F H (start N (.ref p :: vs)) (entryS N.length xs ds) (fun i => if i = 0 then [p] else []) where
  f0 := Same.refl F
  fh := fh
  bh := fun a o _ e => e
  fn := fun a h => .inl h
  ln := by
    unfold L2.start entryS
    have e := r.len
    simp only [List.length_append, List.length_cons, List.length_map, List.length_replicate]
    omega
  sl := fun i s e => by
    unfold entryS at e
    cases i with
    | zero =>
      cases e
      exact ⟨p, ws, rfl, start_get rfl, by simp, h2, h3⟩
    | succ i =>
      rw [List.getElem?_cons_succ] at e
      have z : (if i + 1 = 0 then [p] else []) = ([] : List Addr) := rfl
      by_cases hi : i < ds.length
      · rw [List.getElem?_append_left (by simpa using hi), List.getElem?_map, List.getElem?_eq_getElem hi] at e
        cases e
        obtain ⟨v, a1, a2⟩ := r.get (List.getElem?_eq_getElem hi)
        exact ⟨z, v, start_get (by rw [List.getElem?_cons_succ]; exact a1), a2⟩
      · rw [List.getElem?_append_right (by simpa using hi), List.getElem?_replicate] at e
        split at e
        · cases e; exact z
        · cases e
  sep := fun i j q hi hj => by
    by_cases ei : i = 0
    · by_cases ej : j = 0
      · omega
      · rw [if_neg ej] at hj; cases hj
    · rw [if_neg ei] at hi; cases hi
  out := fun i q hi => by
    by_cases ei : i = 0
    · rw [if_pos ei] at hi
      have : q = p := by simpa using hi
      subst this
      exact ⟨h1, none_of_ne h2, fun t ht => by cases ht⟩
    · rw [if_neg ei] at hi; cases hi
  iof := fun q hq => by
    have : q = p := by simpa using hq
    subst this
    exact ⟨h1, none_of_ne h2, none_of_ne h2⟩
  tm := fun t h => by cases h
/-- THE RULE: a def of the text keeps its promise -/
theorem fn_ok {x qual : Str} {st : Stmt} {f : Addr} {fd : FuncData} {N ps : List Str} {k : Nat} {s : Spec} {d : DS} (Fn : Fun K x qual st f fd) (S : FnScope N ps (defScope st)) (hl : ∀ x, (s.args x).length = ps.length) (ok : s.Ok N.length d)
    (hbody : ∀ (cdv : Value) (A : Around) (outer : List Env) (s₀ : Shared) (H : Hp) (E : XK), Room k (A.deeper (envOfC qual (defScope st) s₀.heap.objs.size f cdv)) → PSs (cxOf CX0 P w K mg base N qual (defScope st) f cdv A outer s₀ H E).nox (defBody st) (LS (cxOf CX0 P w K mg base N qual (defScope st) f cdv A outer s₀ H E).nox d)) :
    FnOk P w K mg base CX0 (k + 1) f fd ps (spOf K mg s) := by
  have hlen : ∀ vs H Q E, spOf K mg s vs H Q E → vs.length = ps.length := fun vs H Q E h => by
    obtain ⟨F, ds, _, r, y, e, _⟩ := h
    rw [r.len, e]
    exact hl y
  have hN : ps.length ≤ N.length := by
    have := congrArg List.length S.pre
    rw [List.length_take] at this
    omega
  refine Fn.ok S hlen fun cdv A outer s₀ H vs Q E hr h => ⟨_, hbody cdv A outer s₀ H E hr, ?_⟩
  have hv := hlen vs H Q E h
  obtain ⟨F, ds, fh, r, y, rfl, hp, q⟩ := h
  refine ⟨_, F, _, _, sr_entry fh r (by omega), DS.to d (ok y hp) ⟨fun e p F' H' σ' fp' S' s' => ?_, fun rv e p F' H' σ' fp' v S' s' rr => ?_, fun e p => p.elim, fun e p => p.elim⟩⟩
  · exact q _ p F' H' .non (fun a o e => S'.bh a o (by simp) e) s' S'.fh S'.fn .non
  · cases rv with
    | bo i => exact (show False from p).elim
    | sh z => exact q _ p F' H' v (fun a o e => S'.bh a o (by simp) e) s' S'.fh S'.fn rr
    | fr z =>
      obtain ⟨p', us, rfl, a, b, c, d, _⟩ := rr
      exact q _ p F' H' _ (fun a o e => S'.bh a o (by simp) e) s' S'.fh S'.fn ⟨p', us, rfl, b, a, c, d⟩
theorem io_end {F0 H F' H' : Hp} {p : Addr} {σ : L2.St} {e : En} {fp : Nat → List Addr} {ys : List D} (S : SR K mg ⟨F0, H, [p], []⟩ F' H' σ e fp) (h : e[0]? = some (.io ys)) : ∃ ws, H' p = some (.lst ws) ∧ Reps K mg F' ws ys := by
  obtain ⟨q, ws, _, _, a, b, c⟩ := S.sl 0 _ h
  have : q = p := by simpa using a
  subst this
  exact ⟨ws, b, c⟩
theorem fn_okS {x qual : Str} {st : Stmt} {f : Addr} {fd : FuncData} {N ps : List Str} {k : Nat} {s : SpecS} {d : DS} (Fn : Fun K x qual st f fd) (S : FnScope N ps (defScope st)) (hl : ∀ x, (s.args x).length + 1 = ps.length) (ok : s.Ok N.length d)
    (hbody : ∀ (cdv : Value) (A : Around) (outer : List Env) (s₀ : Shared) (H : Hp) (E : XK), Room k (A.deeper (envOfC qual (defScope st) s₀.heap.objs.size f cdv)) → PSs (cxOf CX0 P w K mg base N qual (defScope st) f cdv A outer s₀ H E).nox (defBody st) (LS (cxOf CX0 P w K mg base N qual (defScope st) f cdv A outer s₀ H E).nox d)) :
    FnOk P w K mg base CX0 (k + 1) f fd ps (spOfS K mg s) := by
  have hlen : ∀ vs H Q E, spOfS K mg s vs H Q E → vs.length = ps.length := fun vs H Q E h => by
    obtain ⟨F, ds, p, us, ws, xs, e, _, _, _, _, r, y, _, e2, _⟩ := h
    rw [e, List.length_cons, r.len, e2]
    exact hl y
  have hN : ps.length ≤ N.length := by
    have := congrArg List.length S.pre
    rw [List.length_take] at this
    omega
  refine Fn.ok S hlen fun cdv A outer s₀ H vs Q E hr h => ⟨_, hbody cdv A outer s₀ H E hr, ?_⟩
  have hv := hlen vs H Q E h
  obtain ⟨F, ds, p, us, ws, xs, rfl, fh, f1, f2, f3, r, y, rfl, rfl, hp, q⟩ := h
  rw [List.length_cons] at hv
  refine ⟨_, F, _, _, sr_entryS fh f1 f2 f3 r (by omega), DS.to d (ok y hp) ⟨fun e z F' H' σ' fp' S' s' => ?_, fun rv e z F' H' σ' fp' v S' s' rr => ?_, fun e p => p.elim, fun e p => p.elim⟩⟩
  · have z : (match (e : En)[0]? with
      | some (Sl.io ys) => s.post y (.sh .non) ys
      | _ => False) := z
    split at z
    · rename_i ys hys
      obtain ⟨ws', h1, h2⟩ := io_end S' hys
      exact q _ _ z F' H' .non ws' (fun a o n e => S'.bh a o (by simpa using n) e) s' S'.fh S'.fn h1 h2 .non
    · exact z.elim
  · cases rv with
    | bo i => exact (show False from z).elim
    | sh d' =>
      have z : (match (e : En)[0]? with
        | some (Sl.io ys) => s.post y (.sh d') ys
        | _ => False) := z
      split at z
      · rename_i ys hys
        obtain ⟨ws', h1, h2⟩ := io_end S' hys
        exact q _ _ z F' H' v ws' (fun a o n e => S'.bh a o (by simpa using n) e) s' S'.fh S'.fn h1 h2 rr
      · exact z.elim
    | fr d' =>
      have z : (match (e : En)[0]? with
        | some (Sl.io ys) => s.post y (.fr d') ys
        | _ => False) := z
      split at z
      · rename_i ys hys
        obtain ⟨ws', h1, h2⟩ := io_end S' hys
        obtain ⟨p', us', rfl, a, b, c, d, _⟩ := rr
        exact q _ _ z F' H' _ ws' (fun a o n e => S'.bh a o (by simpa using n) e) s' S'.fh S'.fn h1 h2 ⟨p', us', rfl, b, a, c, d⟩
      · exact z.elim
/-- the law: for each script of at most 63 ints the answer is True -/
def lawSpec : Spec := ⟨List Int, fun ns => [.frz (ns.map D.int)], fun ns => ns.length ≤ 63, fun _ r => r = .sh (.bl true)⟩
def spLaw (K : PySem.W.Frag) : Sp := fun vs H Q _ => ∃ (a : Addr) (ns : List Int), vs = [.ref a] ∧ SqL K H a (ns.map V.int) ∧ ns.length ≤ 63 ∧ ∀ H', Q (.bl true) H'
theorem law_imp {vs : List V} {H : Hp} {Q : VK} {E : XK} (h : spLaw K vs H Q E) : spOf K mg lawSpec vs H Q E := by
  obtain ⟨a, ns, rfl, h1, h2, h3⟩ := h
  refine ⟨H, _, Same.refl H, .cons (.frz h1 (reps_ints ns)) .nil, ns, rfl, h2, fun r hr F' H' v _ _ _ _ rr => ?_⟩
  cases hr
  cases rr
  exact h3 H'
end
end Dn

set_option Elab.async false
set_option linter.all false
set_option maxRecDepth 100000
set_option maxHeartbeats 4000000
/-! Dn, part 9: how denotations run, for simp. -/
namespace Dn
open PySem PySem.Spec PyProof.Rows L2
/-- a place that simp leaves alone -/
structure Fx {α : Type} (a : α) : Type where
def Spec.Run (s : Spec) (ds : List D) (Q : Rv → Prop) (_ : Fx Q) : Prop := s.run ds Q
def SpecS.Run (s : SpecS) (xs ds : List D) (Q : Rv → List D → Prop) (_ : Fx Q) : Prop := s.run xs ds Q
def WhileF (c : DT) (b : DS) (D' : DEnds) (env : En) (_ : Fx D') : Prop := (sWhile c b).run D' env
def ForF (i : DI) (g : DG) (b : DS) (D' : DEnds) (env : En) (_ : Fx D') : Prop := (sFor i g b).run D' env
def LcF (i : DI) (g : CT) (c : DT) (e : DE) (vs : List Nat) (env : En) (Q : Rv → En → Prop) (_ : Fx Q) : Prop := (eLc i g c e vs).run env Q
/-- ends of a block's first statement, of a loop's turn -/
def DEnds.sq (D : DEnds) (f : En → Prop) : DEnds := { D with nx := f }
def DEnds.sqS (D : DEnds) (s : DS) : DEnds := { D with nx := fun e => s.run D e }
def DEnds.lp (D : DEnds) (f : En → Prop) : DEnds := { D with nx := f, ct := f, bk := D.nx }
@[simp] theorem sq_nx {D : DEnds} {f : En → Prop} : (D.sq f).nx = f := rfl
@[simp] theorem sq_rt {D : DEnds} {f : En → Prop} : (D.sq f).rt = D.rt := rfl
@[simp] theorem sq_bk {D : DEnds} {f : En → Prop} : (D.sq f).bk = D.bk := rfl
@[simp] theorem sq_ct {D : DEnds} {f : En → Prop} : (D.sq f).ct = D.ct := rfl
@[simp ↓] theorem sqS_nx {D : DEnds} {s : DS} {e : En} : (D.sqS s).nx e = s.run D e := rfl
@[simp] theorem sqS_rt {D : DEnds} {s : DS} : (D.sqS s).rt = D.rt := rfl
@[simp] theorem sqS_bk {D : DEnds} {s : DS} : (D.sqS s).bk = D.bk := rfl
@[simp] theorem sqS_ct {D : DEnds} {s : DS} : (D.sqS s).ct = D.ct := rfl
@[simp] theorem lp_nx {D : DEnds} {f : En → Prop} : (D.lp f).nx = f := rfl
@[simp] theorem lp_rt {D : DEnds} {f : En → Prop} : (D.lp f).rt = D.rt := rfl
@[simp] theorem lp_bk {D : DEnds} {f : En → Prop} : (D.lp f).bk = D.nx := rfl
@[simp] theorem lp_ct {D : DEnds} {f : En → Prop} : (D.lp f).ct = f := rfl
@[simp] theorem retE_nx {p : Rv → Prop} {e : En} : (retE p).nx e = p (.sh .non) := rfl
@[simp] theorem retE_rt {p : Rv → Prop} {d : D} {e : En} : (retE p).rt (.sh d) e = p (.sh d) := rfl
@[simp] theorem retE_rf {p : Rv → Prop} {d : List D} {e : En} : (retE p).rt (.fr d) e = p (.fr d) := rfl
@[simp] theorem retE_bk {p : Rv → Prop} {e : En} : (retE p).bk e = False := rfl
@[simp] theorem retE_ct {p : Rv → Prop} {e : En} : (retE p).ct e = False := rfl
@[simp] theorem retS_nx {p : Rv → List D → Prop} {ys : List D} {e : En} : (retS p).nx (.io ys :: e) = p (.sh .non) ys := rfl
@[simp] theorem retS_rt {p : Rv → List D → Prop} {d : D} {ys : List D} {e : En} : (retS p).rt (.sh d) (.io ys :: e) = p (.sh d) ys := rfl
@[simp] theorem retS_rf {p : Rv → List D → Prop} {d : List D} {ys : List D} {e : En} : (retS p).rt (.fr d) (.io ys :: e) = p (.fr d) ys := rfl
@[simp] theorem retS_bk {p : Rv → List D → Prop} {e : En} : (retS p).bk e = False := rfl
@[simp] theorem retS_ct {p : Rv → List D → Prop} {e : En} : (retS p).ct e = False := rfl
section
variable {env : En} {Q : Rv → En → Prop} {QT : Bool → En → Prop} {QA : List D → En → Prop} {QI : List D → En → Prop} {D' : DEnds} {a b c : DE} {t u : DT} {s s' : DS} {R R' : RO} {R1 : RO1} {i j : Nat}
@[simp ↓] theorem r_var : (eVar i).run env Q = (match env[i]? with
    | some (.sh d) => Q (.sh d) env
    | some (.ow _) => Q (.bo i) env
    | some (.io _) => Q (.bo i) env
    | _ => False) := rfl
@[simp ↓] theorem r_c {d : D} : (eC d).run env Q = Q (.sh d) env := rfl
@[simp ↓] theorem r_op : (eOp R a b).run env Q = a.run env fun x e1 => b.run e1 fun y e2 => match look e2 (holdR x), look e2 y with
    | some d, some e => (R d e).1 ∧ Q (R d e).2 e2
    | _, _ => False := rfl
@[simp ↓] theorem r_op1 : (eOp1 R1 a).run env Q = a.run env fun x e1 => match look e1 x with
    | some d => (R1 d).1 ∧ Q (R1 d).2 e1
    | none => False := rfl
@[simp ↓] theorem r_tB : (tB a).run env QT = a.run env fun r e => match r with
    | .sh (.bl b) => QT b e
    | _ => False := rfl
@[simp ↓] theorem r_tTru : (tTru a).run env QT = a.run env fun r e => match look e r with
    | some d => (truD d).1 ∧ QT (truD d).2 e
    | none => False := rfl
@[simp ↓] theorem r_tAnd : (tAnd t u).run env QT = t.run env fun c e1 => if c = true then u.run e1 QT else QT false e1 := rfl
@[simp ↓] theorem r_tOr : (tOr t u).run env QT = t.run env fun c e1 => if c = true then QT true e1 else u.run e1 QT := rfl
@[simp ↓] theorem r_tNot : (tNot t).run env QT = t.run env fun c e1 => QT (!c) e1 := rfl
@[simp ↓] theorem r_tYes : tYesD.run env QT = QT true env := rfl
@[simp ↓] theorem r_and : (eAnd a b).run env Q = a.run env fun r e1 => match r with
    | .sh (.bl c) => if c = true then b.run e1 Q else Q (.sh (.bl false)) e1
    | _ => False := rfl
@[simp ↓] theorem r_or : (eOr a b).run env Q = a.run env fun r e1 => match r with
    | .sh (.bl c) => if c = true then Q (.sh (.bl true)) e1 else b.run e1 Q
    | _ => False := rfl
@[simp ↓] theorem r_not : (eNot a).run env Q = a.run env fun r e1 => match r with
    | .sh (.bl c) => Q (.sh (.bl (!c))) e1
    | _ => False := rfl
@[simp ↓] theorem r_if : (eIf t a b).run env Q = t.run env fun c e1 => if c = true then a.run e1 Q else b.run e1 Q := rfl
@[simp ↓] theorem r_chain : (eChain R R' a b c).run env Q = a.run env fun x e1 => b.run e1 fun y e2 => match look e2 (holdR x), look e2 (holdR y) with
    | some d, some e => (R d e).1 ∧ match (R d e).2 with
      | .sh (.bl k) => if k = true then c.run e2 fun z e3 => match look e3 (holdR y), look e3 z with
          | some d, some e => (R' d e).1 ∧ Q (R' d e).2 e3
          | _, _ => False
        else Q (.sh (.bl false)) e2
      | _ => False
    | _, _ => False := rfl
@[simp ↓] theorem r_aNil : aNil.run env QA = QA [] env := rfl
@[simp ↓] theorem r_aCons {e : DE} {r : DA} : (aCons e r).run env QA = e.run env fun x e1 => dat e1 x fun d e2 => r.run e2 fun ds e3 => QA (d :: ds) e3 := rfl
@[simp ↓] theorem r_tup {r : DA} : (eTup r).run env Q = r.run env fun ds e1 => ds.length ≤ 1000000 ∧ Q (.sh (.tup ds)) e1 := rfl
@[simp ↓] theorem r_lst {r : DA} : (eLst r).run env Q = r.run env fun ds e1 => ds.length ≤ 1000000 ∧ Q (.fr ds) e1 := rfl
@[simp ↓] theorem r_oNone {QO : Option Int → En → Prop} : oNone.run env QO = QO none env := rfl
@[simp ↓] theorem r_oSome {QO : Option Int → En → Prop} : (oSome a).run env QO = a.run env fun r e => match r with
    | .sh (.int i) => QO (some i) e
    | _ => False := rfl
@[simp ↓] theorem r_sl {lo hi : DO} : (eSl a lo hi).run env Q = a.run env fun x e1 => lo.run e1 fun l e2 => hi.run e2 fun u e3 => match look e3 (holdR x) with
    | some d => (slR d l u).1 ∧ Q (slR d l u).2 e3
    | none => False := rfl
@[simp ↓] theorem r_call {sp : Spec} {r : DA} : (eCall sp r).run env Q = r.run env fun ds e1 => sp.Run ds (fun v => Q v e1) ⟨⟩ := rfl
@[simp ↓] theorem r_callS {sp : SpecS} {r : DA} : (eCallS sp i r).run env Q = ((ownAt env i).isSome = true ∧ r.run env fun ds e1 => match ownAt e1 i with
    | some xs => sp.Run xs ds (fun v ys => Q v (putAt e1 i ys)) ⟨⟩
    | none => False) := rfl
@[simp ↓] theorem r_app : (eApp j a).run env Q = ((ownAt env j).isSome = true ∧ a.run env fun r e1 => dat e1 r fun d e2 => match ownAt e2 j with
    | some xs => xs.length < 1000000 ∧ Q (.sh .non) (putAt e2 j (xs ++ [d]))
    | none => False) := rfl
@[simp ↓] theorem r_pop : (ePop j).run env Q = (match ownAt env j with
    | some xs => (xs.getLast?).isSome = true ∧ Q (.sh (xs.getLast?.getD .non)) (putAt env j xs.dropLast)
    | none => False) := rfl
@[simp ↓] theorem r_popAt : (ePopAt j a).run env Q = ((ownAt env j).isSome = true ∧ a.run env fun r e1 => match r, ownAt e1 j with
    | .sh (.int i), some xs => Sm i ∧ ∃ n, seqIndex? i xs.length = some n ∧ (xs[n]?).isSome = true ∧ Q (.sh (xs[n]?.getD .non)) (putAt e1 j (xs.eraseIdx n))
    | _, _ => False) := rfl
@[simp ↓] theorem r_ext : (eExt j a).run env Q = ((ownAt env j).isSome = true ∧ a.run env fun r e1 => dat e1 r fun d e2 => match d, ownAt e2 j with
    | .lst ys, some xs => xs.length + ys.length ≤ 1000000 ∧ Q (.sh .non) (putAt e2 j (xs ++ ys))
    | _, _ => False) := rfl
@[simp ↓] theorem r_rev : (eRev j).run env Q = (match ownAt env j with
    | some xs => Q (.sh .non) (putAt env j xs.reverse)
    | none => False) := rfl
@[simp ↓] theorem r_iSeq : (iSeq a).run env QI = a.run env fun r e1 => dat e1 r fun d e2 => match d with
    | .lst ds => QI ds e2
    | .tup ds => QI ds e2
    | .frz ds => QI ds e2
    | _ => False := rfl
@[simp ↓] theorem r_range1 {r : DA} : (iRange1 r).run env QI = r.run env fun ds e1 => match ds with
    | [.int j] => Sm j ∧ QI (rangeD 0 j.toNat) e1
    | _ => False := rfl
@[simp ↓] theorem r_range2 {r : DA} : (iRange2 r).run env QI = r.run env fun ds e1 => match ds with
    | [.int i, .int j] => Sm i ∧ Sm j ∧ QI (rangeD i (j - i).toNat) e1
    | _ => False := rfl
@[simp ↓] theorem r_range3 {r : DA} : (iRange3 r).run env QI = r.run env fun ds e1 => match ds with
    | [.int i, .int j, .int c] => ∃ n, RgC i j c n ∧ QI (rangeC i c n) e1
    | _ => False := rfl
@[simp ↓] theorem r_listArg {f : List D → List D} {r : DA} : (iListArg f r).run env QI = r.run env fun ds e1 => match ds with
    | [.lst xs] => QI (f xs) e1
    | [.frz xs] => QI (f xs) e1
    | _ => False := rfl
@[simp ↓] theorem r_zip {r : DA} : (iZipD r).run env QI = r.run env fun ds e1 => match ds with
    | [.lst xs, .lst ys] => QI (zipD xs ys) e1
    | _ => False := rfl
/-! statements -/
@[simp ↓] theorem r_next : sNext.run D' env = D'.nx env := rfl
@[simp ↓] theorem r_seq : (sSeq s s').run D' env = s.run (D'.sqS s') env := rfl
@[simp ↓] theorem r_brk : sBrk.run D' env = D'.bk env := rfl
@[simp ↓] theorem r_cont : sCont.run D' env = D'.ct env := rfl
@[simp ↓] theorem r_never : sNever.run D' env = False := rfl
@[simp ↓] theorem r_expr : (sExpr a).run D' env = a.run env fun _ e1 => D'.nx e1 := rfl
@[simp ↓] theorem r_ret : (sRet a).run D' env = a.run env fun r e1 => match r with
    | .sh d => D'.rt (.sh d) e1
    | .fr ds => D'.rt (.fr ds) e1
    | .bo i => match e1[i]? with
      | some (.ow xs) => D'.rt (.fr xs) (e1.set i .no)
      | _ => False := rfl
@[simp ↓] theorem r_retN : sRetN.run D' env = D'.rt (.sh .non) env := rfl
@[simp ↓] theorem r_sIf : (sIf t s s').run D' env = t.run env fun b e1 => if b = true then s.run D' e1 else s'.run D' e1 := rfl
@[simp ↓] theorem r_asg {g : DG} : (sAsg a g).run D' env = a.run env fun r e1 => dat e1 r fun d e2 => g.run d e2 D'.nx := rfl
@[simp ↓] theorem r_own : (sOwn i a).run D' env = a.run env fun r e1 => match r with
    | .fr ds => D'.nx (e1.set i (.ow ds))
    | .sh d => D'.nx (e1.set i (.sh d))
    | .bo _ => False := rfl
@[simp ↓] theorem r_par {r : DA} : (sPar i j r).run D' env = r.run env fun ds e1 => match ds with
    | [d, e] => D'.nx ((e1.set i (.sh d)).set j (.sh e))
    | _ => False := rfl
@[simp ↓] theorem r_aug : (sAug i R a).run D' env = (match env[i]? with
    | some (.sh d) => a.run env fun r e1 => match look e1 r with
      | some d' => (R d d').1 ∧ match (R d d').2 with
        | .sh z => D'.nx (e1.set i (.sh z))
        | _ => False
      | none => False
    | _ => False) := rfl
@[simp ↓] theorem r_store : (sStore j a b).run D' env = a.run env fun r e1 => dat e1 r fun d e2 => (ownAt e2 j).isSome = true ∧ b.run e2 fun rk e3 => match rk, ownAt e3 j with
    | .sh (.int n), some xs => (ixN xs.length n).isSome = true ∧ D'.nx (putAt e3 j (xs.set ((ixN xs.length n).getD 0) d))
    | _, _ => False := rfl
@[simp ↓] theorem r_while : (sWhile t s).run D' env = WhileF t s D' env ⟨⟩ := rfl
@[simp ↓] theorem r_for {d : DI} {g : DG} : (sFor d g s).run D' env = ForF d g s D' env ⟨⟩ := rfl
@[simp ↓] theorem r_lc {d : DI} {g : CT} {vs : List Nat} : (eLc d g t a vs).run env Q = LcF d g t a vs env Q ⟨⟩ := rfl
@[simp ↓] theorem r_gN {d : D} {QG : En → Prop} : (gN i).run d env QG = QG (env.set i (.sh d)) := rfl
@[simp ↓] theorem r_gNil {ds : List D} {QG : En → Prop} : gNilD.run ds env QG = (match ds with
    | [] => QG env
    | _ => False) := rfl
@[simp ↓] theorem r_gCons {ds : List D} {g : DG} {gs : DGs} {QG : En → Prop} : (gConsD g gs).run ds env QG = (match ds with
    | d :: ds => g.run d env fun e1 => gs.run ds e1 QG
    | [] => False) := rfl
@[simp ↓] theorem r_gTup {d : D} {n : Nat} {gs : DGs} {QG : En → Prop} : (gTupD n gs).run d env QG = (match d with
    | .tup ds => ds.length = n ∧ gs.run ds env QG
    | _ => False) := rfl
end
/-! ### pieces -/
@[simp] theorem holdR_sh {d : D} : holdR (.sh d) = .sh d := rfl
@[simp] theorem holdR_fr {d : List D} : holdR (.fr d) = .sh (.lst d) := rfl
@[simp] theorem holdR_bo {i : Nat} : holdR (.bo i) = .bo i := rfl
@[simp] theorem look_sh {e : En} {d : D} : look e (.sh d) = some d := rfl
@[simp] theorem look_fr {e : En} {d : List D} : look e (.fr d) = some (.lst d) := rfl
@[simp] theorem look_bo {e : En} {i : Nat} : look e (.bo i) = (match e[i]? with
    | some (.ow xs) => some (.lst xs)
    | some (.io xs) => some (.lst xs)
    | _ => none) := rfl
@[simp ↓] theorem dat_eq {e : En} {r : Rv} {k : D → En → Prop} : dat e r k = (match r with
    | .sh d => k d e
    | .fr ds => k (.lst ds) e
    | .bo i => match e[i]? with
      | some (.ow xs) => k (.lst xs) (e.set i (.sh (.lst xs)))
      | _ => False) := rfl
@[simp] theorem ownAt_0o {xs : List D} {e : En} : ownAt (.ow xs :: e) 0 = some xs := rfl
@[simp] theorem ownAt_0i {xs : List D} {e : En} : ownAt (.io xs :: e) 0 = some xs := rfl
@[simp] theorem ownAt_s {s : Sl} {e : En} {i : Nat} : ownAt (s :: e) (i + 1) = ownAt e i := by unfold ownAt; rw [List.getElem?_cons_succ]
@[simp] theorem putAt_0o {xs ys : List D} {e : En} : putAt (.ow xs :: e) 0 ys = .ow ys :: e := rfl
@[simp] theorem putAt_0i {xs ys : List D} {e : En} : putAt (.io xs :: e) 0 ys = .io ys :: e := rfl
@[simp] theorem putAt_s {s : Sl} {e : En} {i : Nat} {ys : List D} : putAt (s :: e) (i + 1) ys = s :: putAt e i ys := by
  unfold putAt
  rw [List.getElem?_cons_succ]
  cases h : e[i]? with
  | none => rfl
  | some t => cases t <;> rfl
@[simp] theorem add_ii {i j : Int} : addR (.int i) (.int j) = (True, .sh (.int (i + j))) := rfl
@[simp] theorem add_ll {i j : List D} : addR (.lst i) (.lst j) = (i.length + j.length ≤ 1000000, .fr (i ++ j)) := rfl
@[simp] theorem add_tt {i j : List D} : addR (.tup i) (.tup j) = (i ≠ [] ∧ i.length + j.length ≤ 1000000, .sh (.tup (i ++ j))) := rfl
@[simp] theorem add_ss {i j : Str} : addR (.str i) (.str j) = (i.length + j.length ≤ 1000000, .sh (.str (i ++ j))) := rfl
@[simp] theorem add_ib {i : Int} {j : Bool} : addR (.int i) (.bl j) = (True, .sh (.int (i + b2i j))) := rfl
@[simp] theorem sub_ii {i j : Int} : subR (.int i) (.int j) = (True, .sh (.int (i - j))) := rfl
@[simp] theorem mul_ii {i j : Int} : mulR (.int i) (.int j) = (IntMulOk i j, .sh (.int (i * j))) := rfl
@[simp] theorem mul_li {i : List D} {k : Int} : mulR (.lst i) (.int k) = (k ≤ 1000000 ∧ -1000000 ≤ k ∧ i.length * k.toNat ≤ 1000000, .fr (List.replicate k.toNat i).flatten) := rfl
@[simp] theorem fdiv_ii {i j : Int} : fdivR (.int i) (.int j) = (DivOk i j, .sh (.int (i.fdiv j))) := rfl
@[simp] theorem mod_ii {i j : Int} : modR (.int i) (.int j) = (j ≠ 0, .sh (.int (i.fmod j))) := rfl
@[simp] theorem pow_ii {i j : Int} : powR (.int i) (.int j) = (0 ≤ j ∧ j ≤ 1000000 ∧ i.natAbs < 2 ^ 64, .sh (.int (i ^ j.toNat))) := rfl
@[simp] theorem iadd_ii {i j : Int} : iaddR (.int i) (.int j) = (True, .sh (.int (i + j))) := rfl
@[simp] theorem imul_ii {i j : Int} : imulR (.int i) (.int j) = (IntMulOk i j, .sh (.int (i * j))) := rfl
@[simp] theorem lt_ii {i j : Int} : ltR (.int i) (.int j) = (True, .sh (.bl (decide (i < j)))) := rfl
@[simp] theorem le_ii {i j : Int} : leR (.int i) (.int j) = (True, .sh (.bl (decide (i ≤ j)))) := rfl
@[simp] theorem gt_ii {i j : Int} : gtR (.int i) (.int j) = (True, .sh (.bl (decide (j < i)))) := rfl
@[simp] theorem ge_ii {i j : Int} : geR (.int i) (.int j) = (True, .sh (.bl (decide (j ≤ i)))) := rfl
@[simp] theorem eq_dd {d e : D} : eqR d e = (d.fin 20 ∧ e.fin 20, .sh (.bl (eqD d e))) := rfl
@[simp] theorem ne_dd {d e : D} : neR d e = (d.fin 20 ∧ e.fin 20, .sh (.bl (!eqD d e))) := rfl
@[simp] theorem isN_d {d : D} : isNR d .non = (True, .sh (.bl (isNon d))) := by cases d <;> rfl
@[simp] theorem notN_d {d : D} : notNR d .non = (True, .sh (.bl (!isNon d))) := by cases d <;> rfl
@[simp] theorem in_l {d : D} {ds : List D} : inR d (.lst ds) = (d.flat = true ∧ ds.all D.flat = true, .sh (.bl (inD d ds))) := by cases d <;> rfl
@[simp] theorem in_t {d : D} {ds : List D} : inR d (.tup ds) = (d.flat = true ∧ ds.all D.flat = true, .sh (.bl (inD d ds))) := by cases d <;> rfl
@[simp] theorem nin_l {d : D} {ds : List D} : ninR d (.lst ds) = (d.flat = true ∧ ds.all D.flat = true, .sh (.bl (!inD d ds))) := by cases d <;> rfl
@[simp] theorem nin_t {d : D} {ds : List D} : ninR d (.tup ds) = (d.flat = true ∧ ds.all D.flat = true, .sh (.bl (!inD d ds))) := by cases d <;> rfl
@[simp] theorem neg_i {i : Int} : negR (.int i) = (True, .sh (.int (-i))) := rfl
@[simp] theorem ix_l {ds : List D} {i : Int} : ixR (.lst ds) (.int i) = ((atI ds i).isSome = true, .sh ((atI ds i).getD .non)) := rfl
@[simp] theorem ix_t {ds : List D} {i : Int} : ixR (.tup ds) (.int i) = ((atI ds i).isSome = true, .sh ((atI ds i).getD .non)) := rfl
@[simp] theorem ix_f {ds : List D} {i : Int} : ixR (.frz ds) (.int i) = ((atI ds i).isSome = true, .sh ((atI ds i).getD .non)) := rfl
@[simp] theorem len_l {ds : List D} : lenR (.lst ds) = (True, .sh (.int ds.length)) := rfl
@[simp] theorem len_t {ds : List D} : lenR (.tup ds) = (True, .sh (.int ds.length)) := rfl
@[simp] theorem len_f {ds : List D} : lenR (.frz ds) = (True, .sh (.int ds.length)) := rfl
@[simp] theorem len_s {z : Str} : lenR (.str z) = (z.length ≤ 1000000, .sh (.int z.length)) := rfl
@[simp] theorem abs_i {i : Int} : absR (.int i) = (True, .sh (.int (if i < 0 then -i else i))) := rfl
@[simp] theorem int_i {i : Int} : intR (.int i) = (True, .sh (.int i)) := rfl
@[simp] theorem int_b {i : Bool} : intR (.bl i) = (True, .sh (.int (if i then 1 else 0))) := rfl
@[simp] theorem list_l {ds : List D} : listR (.lst ds) = (True, .fr ds) := rfl
@[simp] theorem list_t {ds : List D} : listR (.tup ds) = (True, .fr ds) := rfl
@[simp] theorem list_f {ds : List D} : listR (.frz ds) = (True, .fr ds) := rfl
@[simp] theorem tuple_l {ds : List D} : tupleR (.lst ds) = (True, .sh (.tup ds)) := rfl
@[simp] theorem tuple_t {ds : List D} : tupleR (.tup ds) = (True, .sh (.tup ds)) := rfl
@[simp] theorem max2_ii {i j : Int} : max2R (.int i) (.int j) = (True, .sh (.int (if j > i then j else i))) := rfl
@[simp] theorem min2_ii {i j : Int} : min2R (.int i) (.int j) = (True, .sh (.int (if j < i then j else i))) := rfl
@[simp] theorem tru_b {b : Bool} : truD (.bl b) = (True, b) := rfl
@[simp] theorem tru_i {b : Int} : truD (.int b) = (True, b != 0) := rfl
@[simp] theorem tru_l {b : List D} : truD (.lst b) = (True, !b.isEmpty) := rfl
@[simp] theorem tru_t {b : List D} : truD (.tup b) = (True, !b.isEmpty) := rfl
@[simp] theorem tru_n : truD .non = (True, false) := rfl
@[simp] theorem isi_n {T : Ty5} : isiR T .non = (True, .sh (.bl false)) := rfl
@[simp] theorem isi_b {T : Ty5} {b : Bool} : isiR T (.bl b) = (True, .sh (.bl (match T with | .bool => true | .int => true | _ => false))) := rfl
@[simp] theorem isi_i {T : Ty5} {b : Int} : isiR T (.int b) = (True, .sh (.bl (match T with | .int => true | _ => false))) := rfl
@[simp] theorem isi_s {T : Ty5} {b : Str} : isiR T (.str b) = (True, .sh (.bl (match T with | .str => true | _ => false))) := rfl
@[simp] theorem isi_l {T : Ty5} {b : List D} : isiR T (.lst b) = (True, .sh (.bl (match T with | .list => true | _ => false))) := rfl
@[simp] theorem isi_t {T : Ty5} {b : List D} : isiR T (.tup b) = (True, .sh (.bl (match T with | .tuple => true | _ => false))) := rfl
@[simp] theorem sl_l {ds : List D} {lo hi : Option Int} : slR (.lst ds) lo hi = (True, .fr (cutD ds lo hi)) := rfl
@[simp] theorem sl_s {z : Str} {lo hi : Option Int} : slR (.str z) lo hi = (z.length ≤ 1000000, .sh (.str (cutS z lo hi))) := rfl
@[simp] theorem sl_t {ds : List D} {lo hi : Option Int} : slR (.tup ds) lo hi = (¬ (HT.sIx ds.length 0 lo = 0 ∧ HT.sIx ds.length ds.length hi = ds.length), .sh (.tup (cutD ds lo hi))) := rfl
/-! places -/
theorem atI_of {α : Type} (xs : List α) (k : Nat) : atI xs (k : Int) = xs[k]? := by
  cases h : xs[k]? with
  | some v => exact atI_nat h
  | none =>
    have hk : xs.length ≤ k := List.getElem?_eq_none_iff.mp h
    unfold atI ixN
    rw [if_pos (by omega), if_neg (by omega)]
    rfl
theorem atI_nn {α : Type} (xs : List α) {i : Int} (h : 0 ≤ i) : atI xs i = xs[i.toNat]? := by
  have := atI_of xs i.toNat
  rwa [show ((i.toNat : Nat) : Int) = i by omega] at this
@[simp] theorem atI_0 {α : Type} (xs : List α) : atI xs 0 = xs[0]? := atI_of xs 0
@[simp] theorem atI_1 {α : Type} (xs : List α) : atI xs 1 = xs[1]? := atI_of xs 1
@[simp] theorem atI_2 {α : Type} (xs : List α) : atI xs 2 = xs[2]? := atI_of xs 2
@[simp] theorem atI_3 {α : Type} (xs : List α) : atI xs 3 = xs[3]? := atI_of xs 3
@[simp] theorem atI_n {α : Type} (xs : List α) (k : Nat) : atI xs (k : Int) = xs[k]? := atI_of xs k
@[simp] theorem atI_m1 {α : Type} (xs : List α) : atI xs (-1) = xs.getLast? := by
  rcases List.eq_nil_or_concat xs with rfl | ⟨ys, y, rfl⟩
  · rfl
  · rw [List.concat_eq_append, atI_last, List.getLast?_concat]
theorem ixN_nn {n : Nat} {i : Int} (h0 : 0 ≤ i) (h : i < n) : ixN n i = some i.toNat := by unfold ixN; rw [if_pos h0, if_pos h]
@[simp] theorem fin_i {i : Int} {n : Nat} : (D.int i).fin n = True := eq_true (fin_int i n)
@[simp] theorem fin_b {i : Bool} {n : Nat} : (D.bl i).fin n = True := eq_true (fin_bl i n)
@[simp] theorem fin_n {n : Nat} : D.non.fin n = True := eq_true (fin_non n)
@[simp] theorem fin_s {x : Str} {n : Nat} : (D.str x).fin n = (PyData.strOk x = true) := by
  apply propext
  constructor
  · intro h
    cases n with
    | zero => exact h
    | succ n => exact h.elim id fun ⟨ds, e, _⟩ => by rcases e with e | e | e <;> cases e
  · exact fun h => fin_str h n
theorem fin_seq {ds : List D} {n : Nat} {d : D} (hd : d = .lst ds ∨ d = .tup ds ∨ d = .frz ds) : d.fin (n + 1) = ∀ x ∈ ds, x.fin n := by
  apply propext
  constructor
  · intro h
    rcases h with h | ⟨es, e, h⟩
    · rcases hd with rfl | rfl | rfl <;> cases h
    · rcases hd with rfl | rfl | rfl <;> rcases e with e | e | e <;> cases e <;> exact h
  · exact fun h => .inr ⟨ds, hd, h⟩
@[simp] theorem fin_l {ds : List D} {n : Nat} : (D.lst ds).fin (n + 1) = ∀ x ∈ ds, x.fin n := fin_seq (.inl rfl)
@[simp] theorem fin_t {ds : List D} {n : Nat} : (D.tup ds).fin (n + 1) = ∀ x ∈ ds, x.fin n := fin_seq (.inr (.inl rfl))
@[simp] theorem fin_f {ds : List D} {n : Nat} : (D.frz ds).fin (n + 1) = ∀ x ∈ ds, x.fin n := fin_seq (.inr (.inr rfl))
@[simp] theorem eqD_ii {i j : Int} : eqD (.int i) (.int j) = decide (i = j) := by
  show (i == j) = _
  exact Bool.beq_eq_decide_eq i j
@[simp] theorem eqD_bb {i j : Bool} : eqD (.bl i) (.bl j) = (i == j) := rfl
@[simp] theorem eqD_ss {i j : Str} : eqD (.str i) (.str j) = (i == j) := rfl
@[simp] theorem eqD_nn : eqD .non .non = true := rfl
@[simp] theorem eqD_tnil : eqD (.tup []) (.tup []) = true := rfl
@[simp] theorem eqD_tcons {d e : D} {ds es : List D} : eqD (.tup (d :: ds)) (.tup (e :: es)) = (eqD d e && eqD (.tup ds) (.tup es)) := rfl
@[simp] theorem eqD_t0 {d : D} {ds : List D} : eqD (.tup (d :: ds)) (.tup []) = false := rfl
@[simp] theorem eqD_0t {d : D} {ds : List D} : eqD (.tup []) (.tup (d :: ds)) = false := rfl
@[simp] theorem eqD_lnil : eqD (.lst []) (.lst []) = true := rfl
@[simp] theorem eqD_lcons {d e : D} {ds es : List D} : eqD (.lst (d :: ds)) (.lst (e :: es)) = (eqD d e && eqD (.lst ds) (.lst es)) := rfl
@[simp] theorem eqD_l0 {d : D} {ds : List D} : eqD (.lst (d :: ds)) (.lst []) = false := rfl
@[simp] theorem eqD_0l {d : D} {ds : List D} : eqD (.lst []) (.lst (d :: ds)) = false := rfl
@[simp] theorem isNon_i {i : Int} : isNon (.int i) = false := rfl
@[simp] theorem isNon_t {i : List D} : isNon (.tup i) = false := rfl
@[simp] theorem isNon_l {i : List D} : isNon (.lst i) = false := rfl
@[simp] theorem isNon_n : isNon .non = true := rfl
/-! calls -/
theorem Spec.go (s : Spec) (x : s.A) {ds : List D} {Q : Rv → Prop} {f : Fx Q} (e : ds = s.args x) (h : s.pre x) (q : ∀ r, s.post x r → Q r) : s.Run ds Q f := ⟨x, e, h, q⟩
theorem SpecS.go (s : SpecS) (x : s.A) {xs ds : List D} {Q : Rv → List D → Prop} {f : Fx Q} (e : xs = s.st x) (e' : ds = s.args x) (h : s.pre x) (q : ∀ r ys, s.post x r ys → Q r ys) : s.Run xs ds Q f := ⟨x, e, e', h, q⟩
/-- a promise that tells the answer -/
def Spec.det (A : Type) (args : A → List D) (pre : A → Prop) (res : A → Rv) : Spec := ⟨A, args, pre, fun x r => r = res x⟩
def SpecS.det (A : Type) (st args : A → List D) (pre : A → Prop) (res : A → Rv) (to : A → List D) : SpecS := ⟨A, st, args, pre, fun x r ys => r = res x ∧ ys = to x⟩
theorem Spec.det_run {A : Type} {args : A → List D} {pre : A → Prop} {res : A → Rv} (inj : ∀ x y, args x = args y → x = y) (x : A) {Q : Rv → Prop} {f : Fx Q} : (Spec.det A args pre res).Run (args x) Q f = (pre x ∧ Q (res x)) := by
  apply propext
  constructor
  · rintro ⟨y, e, h, q⟩
    cases inj x y e
    exact ⟨h, q _ rfl⟩
  · rintro ⟨h, q⟩
    exact ⟨x, rfl, h, fun r e => by cases e; exact q⟩
theorem SpecS.det_run {A : Type} {st args : A → List D} {pre : A → Prop} {res : A → Rv} {to : A → List D} (inj : ∀ x y, st x = st y → args x = args y → x = y) (x : A) {Q : Rv → List D → Prop} {f : Fx Q} : (SpecS.det A st args pre res to).Run (st x) (args x) Q f = (pre x ∧ Q (res x) (to x)) := by
  apply propext
  constructor
  · rintro ⟨y, e, e', h, q⟩
    cases inj x y e e'
    exact ⟨h, q _ _ ⟨rfl, rfl⟩⟩
  · rintro ⟨h, q⟩
    exact ⟨x, rfl, rfl, h, fun r ys e => by cases e.1; cases e.2; exact q⟩
/-! while, for, comprehensions -/
theorem while_go {c : DT} {b : DS} {D' : DEnds} {env : En} {f : Fx D'} (W : En → Prop) (μ : En → Nat) (h0 : W env)
    (h : ∀ e, W e → c.run e fun k e1 => if k = true then b.run (D'.lp fun e' => W e' ∧ μ e' < μ e) e1 else D'.nx e1) : WhileF c b D' env f := by
  refine ⟨fun m e => m = μ e ∧ W e, ⟨_, rfl, h0⟩, fun m e w => ?_⟩
  obtain ⟨rfl, w⟩ := w
  refine c.mono _ _ _ (fun k e1 q => ?_) (h e w)
  cases k with
  | false => exact q
  | true => exact ⟨_, fun e' n => ⟨_, n.2, rfl, n.1⟩, q⟩
/-- what is walked is told: these items, behind this start -/
def ItOk (i : DI) (env : En) (items : List D) (e0 : En) : Prop := ∀ Q : List D → En → Prop, Q items e0 → i.run env Q
theorem for_go {i : DI} {g : DG} {b : DS} {D' : DEnds} {env : En} {f : Fx D'} (items : List D) (e0 : En) (hi : ItOk i env items e0) (W : Nat → En → Prop) (h0 : W 0 e0)
    (hs : ∀ k x e1, items[k]? = some x → W k e1 → g.run x e1 fun e2 => b.run (D'.lp (W (k + 1))) e2) (hd : ∀ e1, W items.length e1 → D'.nx e1) : ForF i g b D' env f :=
  hi _ ⟨W, h0, hs, hd⟩
theorem lc_go {i : DI} {g : CT} {c : DT} {e : DE} {vs : List Nat} {env : En} {Q : Rv → En → Prop} {f : Fx Q} (items : List D) (e0 : En) (hi : ItOk i env items e0) (hv : ∀ v ∈ vs, v < e0.length ∧ (e0.getD v .no).plain) (W : Nat → List D → En → Prop) (h0 : W 0 [] (wipeE e0 vs))
    (hs : ∀ k x out e1, items[k]? = some x → W k out e1 → g.run x e1 fun e2 => c.run e2 fun b e3 => if b = true then e.run e3 fun r e4 => dat e4 r fun d e5 => out.length < 1000000 ∧ W (k + 1) (out ++ [d]) (wipeE e5 vs) else W (k + 1) out (wipeE e3 vs))
    (hd : ∀ out e1, W items.length out e1 → Q (.fr out) (unwipe e1 e0 vs)) : LcF i g c e vs env Q f :=
  hi _ ⟨hv, W, h0, hs, hd⟩
end Dn

set_option Elab.async false
set_option linter.all false
set_option maxRecDepth 100000
set_option maxHeartbeats 4000000
/-! Dn, part 10: loops and comprehensions in common shapes. -/
namespace Dn
open PySem PySem.Spec PyProof.Rows L2
@[simp] theorem ct1_run {i : Nat} {x : D} {e : En} {k : En → Prop} : (CT.one i).run x e k = k (e.set i (.sh x)) := rfl
@[simp] theorem ct2_run {i j : Nat} {x y : D} {e : En} {k : En → Prop} : (CT.two i j).run (.tup [x, y]) e k = k ((e.set i (.sh x)).set j (.sh y)) := rfl
@[simp] theorem ct3_run {i j l : Nat} {x y z : D} {e : En} {k : En → Prop} : (CT.three i j l).run (.tup [x, y, z]) e k = k (((e.set i (.sh x)).set j (.sh y)).set l (.sh z)) := rfl
theorem CT.mono' {g : CT} {x : D} {e : En} {k k' : En → Prop} (h : ∀ e, k e → k' e) (q : g.run x e k) : g.run x e k' := by
  unfold CT.run at *
  split at q
  · exact h _ q
  · exact h _ q
  · exact h _ q
  · exact q.elim
@[simp] theorem wipe_n {e : En} : wipeE e [] = e := rfl
@[simp] theorem wipe_c {e : En} {v : Nat} {vs : List Nat} : wipeE e (v :: vs) = (wipeE e vs).set v .no := rfl
@[simp] theorem unwipe_n {e e0 : En} : unwipe e e0 [] = e := rfl
@[simp] theorem unwipe_c {e e0 : En} {v : Nat} {vs : List Nat} : unwipe e e0 (v :: vs) = (unwipe e e0 vs).set v (e0.getD v .no) := rfl
@[simp] theorem plain_no : Sl.plain .no := trivial
@[simp] theorem plain_sh {d : D} : Sl.plain (.sh d) := trivial
@[simp] theorem sm_lit {i : Int} (h : -4000000000000000000 ≤ i) (h' : i ≤ 4000000000000000000) : Sm i := ⟨h, h'⟩
theorem sm_n {n : Nat} (h : n ≤ 4000000000000000000) : Sm (n : Int) := ⟨by omega, by omega⟩
theorem it_range1 {e : En} {n : Int} (h : Sm n) {r : DA} (hr : ∀ QA, r.run e QA = QA [.int n] e) : ItOk (iRange1 r) e (rangeD 0 n.toNat) e := fun Q q => by
  rw [r_range1, hr]
  exact ⟨h, q⟩
theorem it_range2 {e : En} {m n : Int} (h0 : Sm m) (h : Sm n) {r : DA} (hr : ∀ QA, r.run e QA = QA [.int m, .int n] e) : ItOk (iRange2 r) e (rangeD m (n - m).toNat) e := fun Q q => by
  rw [r_range2, hr]
  exact ⟨h0, h, q⟩
/-- nothing can be asked -/
theorem fn_none {P : Program} {w : World} {K : PySem.W.Frag} {mg : Str → Option Value} {base : Heap} {k : Nat} {f : Addr} {fd : FuncData} {ps : List Str} {s : Spec} (h : ∀ x, ¬ s.pre x) : FnOk P w K mg base CX0 k f fd ps (spOf K mg s) :=
  have no : ∀ vs H Q E, ¬ spOf K mg s vs H Q E := fun vs H Q E q => by
    obtain ⟨F, ds, _, _, y, _, hp, _⟩ := q
    exact h y hp
  ⟨fun vs H Q E q => absurd q (no vs H Q E), fun A outer t H args us vs Q E _ _ _ _ q => absurd q (no vs H Q E)⟩
/-- a loop over the numbers below n -/
theorem for_range {n : Nat} {e : En} {r : DA} {g : Nat} {b : DS} {D' : DEnds} {f : Fx D'} (hn : n ≤ 4000000000000000000) (hr : ∀ QA, r.run e QA = QA [.int (n : Int)] e) (W : Nat → En → Prop) (h0 : W 0 e)
    (hs : ∀ k, k < n → ∀ e1, W k e1 → b.run (D'.lp (W (k + 1))) (e1.set g (.sh (.int (k : Int))))) (hd : ∀ e1, W n e1 → D'.nx e1) : ForF (iRange1 r) (gN g) b D' e f :=
  for_go (rangeD 0 n) e (it_range1 (sm_n hn) hr) W h0 (fun k x e1 hx w => by
    rw [rangeD_get] at hx
    split at hx
    · cases hx
      rw [r_gN, Int.zero_add]
      exact hs k (by assumption) e1 w
    · cases hx) fun e1 w => hd e1 (by rwa [rangeD_len] at w)
/-- a loop over the numbers from m below n -/
theorem for_range2 {m n : Nat} {e : En} {r : DA} {g : Nat} {b : DS} {D' : DEnds} {f : Fx D'} (hm : m ≤ 4000000000000000000) (hn : n ≤ 4000000000000000000) (hr : ∀ QA, r.run e QA = QA [.int (m : Int), .int (n : Int)] e) (W : Nat → En → Prop) (h0 : W m e)
    (hs : ∀ k, m ≤ k → k < n → ∀ e1, W k e1 → b.run (D'.lp (W (k + 1))) (e1.set g (.sh (.int (k : Int))))) (hd : ∀ k e1, m ≤ k → n ≤ k → W k e1 → D'.nx e1) : ForF (iRange2 r) (gN g) b D' e f :=
  for_go (rangeD m (n - m)) e (by have := it_range2 (sm_n hm) (sm_n hn) hr; rwa [show ((n : Int) - (m : Int)).toNat = n - m by omega] at this) (fun k => W (m + k)) h0 (fun k x e1 hx w => by
    rw [rangeD_get] at hx
    split at hx
    · cases hx
      rw [r_gN, ← Int.natCast_add]
      exact hs (m + k) (by omega) (by omega) e1 w
    · cases hx) fun e1 w => hd (m + (n - m)) e1 (by omega) (by omega) (by rwa [rangeD_len] at w)
/-- one statement, then the others: only P is handed on -/
theorem seq_cut (P : En → Prop) {s s' : DS} {D' : DEnds} {e : En} (h : s.run (D'.sq P) e) (h' : ∀ e, P e → s'.run D' e) : (sSeq s s').run D' e :=
  s.mono (D'.sq P) (D'.sqS s') e ⟨fun e p => h' e p, fun _ _ h => h, fun _ h => h, fun _ h => h⟩ h
/-- a loop over a list's items -/
theorem it_seq {a : DE} {e : En} {ds : List D} (h : ∀ Q : List D → En → Prop, (iSeq a).run e Q = Q ds e) : ItOk (iSeq a) e ds e := fun Q q => by rw [h]; exact q
theorem for_seq {ds : List D} {e : En} {i : DI} {g : DG} {b : DS} {D' : DEnds} {f : Fx D'} (hr : ∀ Q : List D → En → Prop, i.run e Q = Q ds e) (W : Nat → En → Prop) (h0 : W 0 e)
    (hs : ∀ k (h : k < ds.length), ∀ e1, W k e1 → g.run ds[k] e1 fun e2 => b.run (D'.lp (W (k + 1))) e2) (hd : ∀ e1, W ds.length e1 → D'.nx e1) : ForF i g b D' e f :=
  for_go ds e (fun Q q => by rw [hr]; exact q) W h0 (fun k x e1 hx w => by
    obtain ⟨h, rfl⟩ := List.getElem?_eq_some_iff.mp hx
    exact hs k h e1 w) hd
/-- a comprehension that maps -/
theorem lc_map {i : DI} {g : CT} {e : DE} {vs : List Nat} {env : En} {Q : Rv → En → Prop} {f : Fx Q} (items out : List D) (hl : out.length = items.length) (hn : out.length ≤ 1000000) (hi : ∀ Q : List D → En → Prop, i.run env Q = Q items env) (hv : ∀ v ∈ vs, v < env.length ∧ (env.getD v .no).plain)
    (hs : ∀ k (h : k < items.length), g.run items[k] (wipeE env vs) fun e2 => e.run e2 fun r e4 => dat e4 r fun d e5 => d = out[k]'(by omega) ∧ wipeE e5 vs = wipeE env vs)
    (hd : Q (.fr out) (unwipe (wipeE env vs) env vs)) : LcF i g tYesD e vs env Q f := by
  refine lc_go items env (fun Q q => by rw [hi]; exact q) hv (fun k o e1 => o = out.take k ∧ e1 = wipeE env vs) ⟨rfl, rfl⟩ ?_ ?_
  · rintro k x o e1 hx ⟨rfl, rfl⟩
    obtain ⟨h, rfl⟩ := List.getElem?_eq_some_iff.mp hx
    have := hs k h
    refine CT.mono' (fun e2 q => ?_) this
    rw [r_tYes, if_pos rfl]
    refine e.mono _ _ _ (fun r e4 q => dat_mono (fun d e5 q => ?_) q) q
    obtain ⟨rfl, q⟩ := q
    refine ⟨?_, ?_, q⟩
    · rw [List.length_take]; omega
    · rw [List.take_succ_eq_append_getElem (by omega)]
  · rintro o e1 ⟨rfl, rfl⟩
    rw [← hl, List.take_length]
    exact hd
end Dn

set_option Elab.async false
set_option linter.all false
set_option maxRecDepth 100000
set_option maxHeartbeats 4000000
/-! Dn, part 11: xs[k] op= e; xs[::-1]. -/
namespace Dn
open PySem PySem.Spec PyProof.Rows L2
section
variable {X : Cx} {o e k : Expr} {te tk : DE} {pos : Pos}
theorem get_list : PGet X (rIxL X.K) := by
  intro pins s σ H x y v u Q I rx ry h
  obtain ⟨p, xs, i, z, rfl, rfl, hq, he, q⟩ := h
  cases rx
  obtain ⟨t, rfl⟩ := ry
  obtain ⟨its, r, pl, hz⟩ := I.list hq
  obtain ⟨j, h1, h2, h3, h4, h5⟩ := atI_get he
  obtain ⟨w, ew, rw'⟩ := r.get h2
  have hl := r.length
  have hn := line63
  have fin : EP X pins σ Q w s := ⟨z, H, I, rw', q⟩
  by_cases h0 : 0 ≤ i
  · have hj : i.toNat = j := by
      rw [seqIndex_of h0 h5] at h1
      exact Option.some.inj h1
    exact wpAny_getItem_list pl.isList h0 (by omega) (by rw [hj]; simpa using ew) fin
  · have hj : (i + (its.toArray.size : Int)).toNat = j := by
      rw [seqIndex_neg (by omega) h4] at h1
      rw [List.size_toArray, ← hl]
      exact Option.some.inj h1
    exact wpAny_getItem_list_neg pl.isList (by omega) (by rw [List.size_toArray] <;> omega) (by omega) (by rw [hj]; simpa using ew) fin
/-- xs[k] op= e, xs the own list in slot j -/
def sAugS (j : Nat) (R : RO) (k e : DE) : DS where
  run D env := (ownAt env j).isSome = true ∧ k.run env fun rk e1 => match rk, ownAt e1 j with
    | .sh (.int n), some xs => (atI xs n).isSome = true ∧ e.run e1 fun r e2 => match look e2 r, ownAt e2 j with
      | some d', some ys => ys.length = xs.length ∧ (R ((atI xs n).getD .non) d').1 ∧ match (R ((atI xs n).getD .non) d').2 with
        | .sh z => D.nx (putAt e2 j (ys.set ((ixN xs.length n).getD 0) z))
        | _ => False
      | _, _ => False
    | _, _ => False
  mono D D' env h q := by
    refine ⟨q.1, k.mono _ _ _ (fun rk e1 q => ?_) q.2⟩
    split at q
    · refine ⟨q.1, e.mono _ _ _ (fun r e2 q => ?_) q.2⟩
      split at q
      · refine ⟨q.1, q.2.1, ?_⟩
        have q := q.2.2
        split at q
        · exact h.nx _ q
        · exact q.elim
      · exact q.elim
    · exact q.elim
theorem ds_augS {j : Nat} {op : Operator} {R : RO} {tpos : Pos} (ho : OpS X (inplaceOp op) R) (hv : PE X o (tVar j)) (hk : PE X k (LE X tk)) (he : PE X e (LE X te))
    (ha : ∀ ov iv new, augStore k ov iv new = (do holding [new, ov, iv] (setItem ov iv new); release [new, ov, iv] []; pure .next) := by intros; rfl) :
    PS X (.AugAssign (.Subscript o k tpos) op e pos) (LS X (sAugS j R tk te)) := by
  obtain ⟨r, h1, h2⟩ := ho
  refine ps_imp (ps_augS (tip := r) hv hk get_list he h1 set_list ha) fun D σ H q => ?_
  obtain ⟨C, F, env, fp, S, q0, q⟩ := q
  obtain ⟨xs0, hx0⟩ := Option.isSome_iff_exists.mp q0
  obtain ⟨s0, a0, b0, _⟩ := ownAt_sl hx0
  obtain ⟨p, ws0, z0, hp, c0, d0⟩ := S.ownAt a0 b0
  refine ⟨.ref p, hp, C, F, env, fp, S, tk.mono _ _ _ (fun rk e1 q F1 H1 fp1 w S1 s1 r1 => ?_) q⟩
  split at q
  · rename_i n xs hxs
    cases r1
    obtain ⟨q1, q⟩ := q
    obtain ⟨s1', a1, b1, _⟩ := ownAt_sl hxs
    obtain ⟨p', ws, z, hp', c, d1⟩ := S1.ownAt a1 b1
    rw [hp] at hp'
    cases hp'
    obtain ⟨x, ex, rx⟩ := reps_at d1 q1
    refine ⟨p, ws, n, x, rfl, rfl, SqL.of c, ex, C, F1, e1, fp1, S1, te.mono _ _ _ (fun y e2 q F2 H2 fp2 u S2 s2 r2 => ?_) q⟩
    split at q
    · rename_i d' ys hd' hys
      obtain ⟨ql, q2, q⟩ := q
      obtain ⟨sl, hsl, ho, hput⟩ := ownAt_sl hys
      refine h2 C F2 H2 σ e2 fp2 x u _ d' _ S2 (RT.of (rx.up s2) S2.fh) (look_rt S2 r2 hd') q2 fun F3 H3 fp3 w S3 s3 r3 => ?_
      split at q
      · rename_i zz hz
        rw [hz] at r3
        obtain ⟨p', ws2, z2, hp', c2, d2⟩ := S3.ownAt hsl ho
        rw [hp] at hp'
        cases hp'
        obtain ⟨m, hm⟩ : ∃ m, ixN xs.length n = some m := by
          have := q1
          unfold atI at this
          cases hi : ixN xs.length n with
          | none => rw [hi] at this; cases this
          | some m => exact ⟨m, rfl⟩
        rw [hm] at q
        refine ⟨p, ws2, n, m, rfl, rfl, c2, by rw [d2.len, ql]; exact hm, ?_⟩
        have S4 := S3.write (ys := ys.set m zz) hsl ho hp (d2.set r3 m)
        rw [← hput] at S4
        exact q F3 _ _ fp3 S4 ((s1.trans s2).trans s3)
      · exact q.elim
    · exact q.elim
  · exact q.elim
@[simp ↓] theorem r_augS {j : Nat} {R : RO} {D' : DEnds} {env : En} : (sAugS j R tk te).run D' env = ((ownAt env j).isSome = true ∧ tk.run env fun rk e1 => match rk, ownAt e1 j with
    | .sh (.int n), some xs => (atI xs n).isSome = true ∧ te.run e1 fun r e2 => match look e2 r, ownAt e2 j with
      | some d', some ys => ys.length = xs.length ∧ (R ((atI xs n).getD .non) d').1 ∧ match (R ((atI xs n).getD .non) d').2 with
        | .sh z => D'.nx (putAt e2 j (ys.set ((ixN xs.length n).getD 0) z))
        | _ => False
      | _, _ => False
    | _, _ => False) := rfl
/-- xs[::-1] of a list -/
def revR : RO1
  | .lst ds => (True, .fr ds.reverse)
  | .frz ds => (True, .fr ds.reverse)
  | _ => (False, .sh .non)
end
end Dn

set_option Elab.async false
set_option linter.all false
set_option maxRecDepth 100000
set_option maxHeartbeats 4000000
/-! Dn, part 12: loops whose invariant simp leaves alone. -/
namespace Dn
open PySem PySem.Spec PyProof.Rows L2
def HoldF (W : En → Prop) (e : En) (_ : Fx W) : Prop := W e
theorem hold {W : En → Prop} {e : En} {f : Fx W} (h : W e) : HoldF W e f := h
theorem whileI {c : DT} {b : DS} {D' : DEnds} {env : En} {f : Fx D'} (W : En → Prop) (μ : En → Nat) (h0 : W env)
    (h : ∀ e, W e → c.run e fun k e1 => if k = true then b.run (D'.lp fun e' => HoldF (fun z => W z ∧ μ z < μ e) e' ⟨⟩) e1 else D'.nx e1) : WhileF c b D' env f := while_go W μ h0 h
theorem forI {i : DI} {g : DG} {b : DS} {D' : DEnds} {env : En} {f : Fx D'} (items : List D) (e0 : En) (hi : ItOk i env items e0) (W : Nat → En → Prop) (h0 : W 0 e0)
    (hs : ∀ k x e1, items[k]? = some x → W k e1 → g.run x e1 fun e2 => b.run (D'.lp fun e => HoldF (W (k + 1)) e ⟨⟩) e2) (hd : ∀ e1, W items.length e1 → D'.nx e1) : ForF i g b D' env f := for_go items e0 hi W h0 hs hd
theorem forR {n : Nat} {e : En} {r : DA} {g : Nat} {b : DS} {D' : DEnds} {f : Fx D'} (hn : n ≤ 4000000000000000000) (hr : ∀ QA, r.run e QA = QA [.int (n : Int)] e) (W : Nat → En → Prop) (h0 : W 0 e)
    (hs : ∀ k, k < n → ∀ e1, W k e1 → b.run (D'.lp fun e => HoldF (W (k + 1)) e ⟨⟩) (e1.set g (.sh (.int (k : Int))))) (hd : ∀ e1, W n e1 → D'.nx e1) : ForF (iRange1 r) (gN g) b D' e f := for_range hn hr W h0 hs hd
theorem forRi {n : Int} {e : En} {r : DA} {g : Nat} {b : DS} {D' : DEnds} {f : Fx D'} (hn : Sm n) (hr : ∀ QA, r.run e QA = QA [.int n] e) (W : Nat → En → Prop) (h0 : W 0 e)
    (hs : ∀ k, k < n.toNat → ∀ e1, W k e1 → b.run (D'.lp fun e => HoldF (W (k + 1)) e ⟨⟩) (e1.set g (.sh (.int (k : Int))))) (hd : ∀ e1, W n.toNat e1 → D'.nx e1) : ForF (iRange1 r) (gN g) b D' e f :=
  for_go (rangeD 0 n.toNat) e (it_range1 hn hr) W h0 (fun k x e1 hx w => by
    rw [rangeD_get] at hx
    split at hx
    · cases hx
      rw [r_gN, Int.zero_add]
      exact hs k (by assumption) e1 w
    · cases hx) fun e1 w => hd e1 (by rwa [rangeD_len] at w)
theorem forR2 {m n : Nat} {e : En} {r : DA} {g : Nat} {b : DS} {D' : DEnds} {f : Fx D'} (hm : m ≤ 4000000000000000000) (hn : n ≤ 4000000000000000000) (hr : ∀ QA, r.run e QA = QA [.int (m : Int), .int (n : Int)] e) (W : Nat → En → Prop) (h0 : W m e)
    (hs : ∀ k, m ≤ k → k < n → ∀ e1, W k e1 → b.run (D'.lp fun e => HoldF (W (k + 1)) e ⟨⟩) (e1.set g (.sh (.int (k : Int))))) (hd : ∀ k e1, m ≤ k → n ≤ k → W k e1 → D'.nx e1) : ForF (iRange2 r) (gN g) b D' e f := for_range2 hm hn hr W h0 hs hd
theorem forS {ds : List D} {e : En} {i : DI} {g : DG} {b : DS} {D' : DEnds} {f : Fx D'} (hr : ∀ Q : List D → En → Prop, i.run e Q = Q ds e) (W : Nat → En → Prop) (h0 : W 0 e)
    (hs : ∀ k (h : k < ds.length), ∀ e1, W k e1 → g.run ds[k] e1 fun e2 => b.run (D'.lp fun e => HoldF (W (k + 1)) e ⟨⟩) e2) (hd : ∀ e1, W ds.length e1 → D'.nx e1) : ForF i g b D' e f := for_seq hr W h0 hs hd
def DEnds.cut (D : DEnds) (P : En → Prop) : DEnds := { D with nx := fun e => HoldF P e ⟨⟩ }
@[simp ↓] theorem cut_nx {D : DEnds} {P : En → Prop} {e : En} : (D.cut P).nx e = HoldF P e ⟨⟩ := rfl
@[simp] theorem cut_rt {D : DEnds} {P : En → Prop} : (D.cut P).rt = D.rt := rfl
@[simp] theorem cut_bk {D : DEnds} {P : En → Prop} : (D.cut P).bk = D.bk := rfl
@[simp] theorem cut_ct {D : DEnds} {P : En → Prop} : (D.cut P).ct = D.ct := rfl
/-- one statement, then the others: only P is handed on -/
theorem cut (P : En → Prop) {s s' : DS} {D' : DEnds} {e : En} (h : s.run (D'.cut P) e) (h' : ∀ e, P e → s'.run D' e) : (sSeq s s').run D' e := seq_cut P h h'
def HoldL (W : List D → En → Prop) (o : List D) (e : En) (_ : Fx W) : Prop := W o e
theorem holdL {W : List D → En → Prop} {o : List D} {e : En} {f : Fx W} (h : W o e) : HoldL W o e f := h
theorem lcI {i : DI} {g : CT} {c : DT} {e : DE} {vs : List Nat} {env : En} {Q : Rv → En → Prop} {f : Fx Q} (items : List D) (e0 : En) (hi : ItOk i env items e0) (hv : ∀ v ∈ vs, v < e0.length ∧ (e0.getD v .no).plain) (W : Nat → List D → En → Prop) (h0 : W 0 [] (wipeE e0 vs))
    (hs : ∀ k x out e1, items[k]? = some x → W k out e1 → g.run x e1 fun e2 => c.run e2 fun b e3 => if b = true then e.run e3 fun r e4 => dat e4 r fun d e5 => out.length < 1000000 ∧ HoldL (W (k + 1)) (out ++ [d]) (wipeE e5 vs) ⟨⟩ else HoldL (W (k + 1)) out (wipeE e3 vs) ⟨⟩)
    (hd : ∀ out e1, W items.length out e1 → Q (.fr out) (unwipe e1 e0 vs)) : LcF i g c e vs env Q f := lc_go items e0 hi hv W h0 hs hd
/-! rows of whole numbers as data -/
def iL (ns : List Int) : List D := ns.map D.int
abbrev lsD (ns : List Int) : D := .lst (iL ns)
@[simp] theorem iL_len {ns : List Int} : (iL ns).length = ns.length := by simp [iL]
theorem iL_inj {a b : List Int} (h : iL a = iL b) : a = b := (List.map_inj_right (fun x y e => by simpa using e)).mp h
@[simp] theorem iL_eq {a b : List Int} : (iL a = iL b) = (a = b) := propext ⟨iL_inj, fun h => by rw [h]⟩
theorem iL_get {ns : List Int} {k : Nat} (h : k < ns.length) : (iL ns)[k]'(by simpa using h) = .int ns[k] := by simp [iL]
@[simp] theorem iL_nil : iL [] = [] := rfl
@[simp] theorem iL_isE {a : List Int} : (iL a).isEmpty = a.isEmpty := by cases a <;> rfl
theorem iL_cons {a : Int} {ns : List Int} : iL (a :: ns) = D.int a :: iL ns := rfl
@[simp] theorem iL_app {a b : List Int} : iL a ++ iL b = iL (a ++ b) := by simp [iL]
@[simp] theorem iL_rev {a : List Int} : (iL a).reverse = iL a.reverse := by simp [iL]
@[simp] theorem iL_set {a : List Int} {k : Nat} {x : Int} : (iL a).set k (.int x) = iL (a.set k x) := by simp [iL, List.map_set]
@[simp] theorem iL_drop {a : List Int} {k : Nat} : (iL a).drop k = iL (a.drop k) := by simp [iL, List.map_drop]
@[simp] theorem iL_dropLast {a : List Int} : (iL a).dropLast = iL a.dropLast := by simp [iL, List.map_dropLast]
@[simp] theorem iL_last {a : List Int} : (iL a).getLast? = a.getLast?.map D.int := by simp [iL, List.getLast?_map]
@[simp] theorem iL_at {a : List Int} {k : Nat} : (iL a)[k]? = a[k]?.map D.int := by simp [iL]
@[simp] theorem iL_repl {n : Nat} {x : Int} : List.replicate n (D.int x) = iL (List.replicate n x) := by simp [iL]
@[simp ↓] theorem fin_ls {ns : List Int} {n : Nat} : (D.lst (iL ns)).fin (n + 1) = True := by
  rw [fin_l]
  refine eq_true fun x hx => ?_
  obtain ⟨i, _, rfl⟩ := List.mem_map.mp hx
  exact fin_int _ _
@[simp ↓] theorem eqD_ls {a b : List Int} : eqD (.lst (iL a)) (.lst (iL b)) = decide (a = b) := by
  induction a generalizing b with
  | nil =>
    cases b with
    | nil => rfl
    | cons y t => simp [iL]
  | cons x s ih =>
    cases b with
    | nil => simp [iL]
    | cons y t =>
      have := ih (b := t)
      simp only [iL, List.map_cons, eqD_lcons, eqD_ii] at this ⊢
      rw [this, ← Bool.decide_and]
      congr 1
      simp
@[simp ↓] theorem eqD_lsn {a : List Int} : eqD (.lst (iL a)) (.lst []) = decide (a = []) := eqD_ls (b := [])
/-! coefficients -/
def coef (p : List Int) (k : Nat) : Int := p.getD k 0
theorem coef_ge {p : List Int} {k : Nat} (h : p.length ≤ k) : coef p k = 0 := by
  unfold coef
  rw [List.getD_eq_getElem?_getD, List.getElem?_eq_none h]
  rfl
theorem coef_lt {p : List Int} {k : Nat} (h : k < p.length) : coef p k = p[k] := by
  unfold coef
  rw [List.getD_eq_getElem?_getD, List.getElem?_eq_getElem h]
  rfl
theorem atI_iL {ns : List Int} {k : Int} (h0 : 0 ≤ k) (h : k < ns.length) : atI (iL ns) k = some (.int (coef ns k.toNat)) := by
  have h' : k.toNat < ns.length := by omega
  rw [atI_nn _ h0, iL_at, List.getElem?_eq_getElem h', coef_lt h']
  rfl
theorem atI_n' {xs : List Int} {m : Nat} (h : m < xs.length) : atI (iL xs) (m : Int) = some (.int (coef xs m)) := by
  rw [atI_iL (by omega) (by omega)]
  rfl
theorem at_n' {xs : List Int} {m : Nat} (h : m < xs.length) : xs[m]? = some (coef xs m) := by
  rw [List.getElem?_eq_getElem h, coef_lt h]
theorem ixN_n' {n m : Nat} (h : m < n) : ixN n (m : Int) = some m := by rw [ixN_nn (by omega) (by omega)]; rfl
theorem coef_set {xs : List Int} {i k : Nat} {x : Int} (h : i < xs.length) : coef (xs.set i x) k = if k = i then x else coef xs k := by
  unfold coef
  rw [List.getD_eq_getElem?_getD, List.getD_eq_getElem?_getD, List.getElem?_set]
  by_cases e : i = k
  · subst e
    simp [h]
  · rw [if_neg e, if_neg (by omega)]
theorem coef_repl {n k : Nat} : coef (List.replicate n 0) k = 0 := by
  by_cases h : k < n
  · rw [coef_lt (by simpa using h)]; simp
  · rw [coef_ge (by simpa using h)]
theorem forE {ns : List Int} {e : En} {i : DI} {a b : Nat} {s : DS} {D' : DEnds} {f : Fx D'} (hr : ∀ Q : List D → En → Prop, i.run e Q = Q (enumD (iL ns)) e) (W : Nat → En → Prop) (h0 : W 0 e)
    (hs : ∀ k, k < ns.length → ∀ e1, W k e1 → s.run (D'.lp fun e => HoldF (W (k + 1)) e ⟨⟩) ((e1.set a (.sh (.int (k : Int)))).set b (.sh (.int (coef ns k))))) (hd : ∀ e1, W ns.length e1 → D'.nx e1) : ForF i (gTupD 2 (gConsD (gN a) (gConsD (gN b) gNilD))) s D' e f :=
  forI (enumD (iL ns)) e (fun Q q => by rw [hr]; exact q) W h0 (fun k x e1 hx w => by
    rw [enumD_get, iL_at] at hx
    by_cases h : k < ns.length
    · rw [List.getElem?_eq_getElem h] at hx
      cases hx
      have := hs k h e1 w
      rw [coef_lt h] at this
      simpa using this
    · rw [List.getElem?_eq_none (by omega)] at hx
      cases hx) fun e1 w => hd e1 (by rwa [enumD_len, iL_len] at w)
/-- over a row's numbers -/
theorem forL {ns : List Int} {e : En} {i : DI} {a : Nat} {s : DS} {D' : DEnds} {f : Fx D'} (hr : ∀ Q : List D → En → Prop, i.run e Q = Q (iL ns) e) (W : Nat → En → Prop) (h0 : W 0 e)
    (hs : ∀ k, k < ns.length → ∀ e1, W k e1 → s.run (D'.lp fun e => HoldF (W (k + 1)) e ⟨⟩) (e1.set a (.sh (.int (coef ns k))))) (hd : ∀ e1, W ns.length e1 → D'.nx e1) : ForF i (gN a) s D' e f :=
  forI (iL ns) e (fun Q q => by rw [hr]; exact q) W h0 (fun k x e1 hx w => by
    rw [iL_at] at hx
    by_cases h : k < ns.length
    · rw [List.getElem?_eq_getElem h] at hx
      cases hx
      have := hs k h e1 w
      rw [coef_lt h] at this
      simpa using this
    · rw [List.getElem?_eq_none (by omega)] at hx
      cases hx) fun e1 w => hd e1 (by rwa [iL_len] at w)
/-- a comprehension that makes a row -/
theorem lcL {i : DI} {g : CT} {e : DE} {vs : List Nat} {env : En} {Q : Rv → En → Prop} {f : Fx Q} (items : List D) (out : List Int) (hl : out.length = items.length) (hn : out.length ≤ 1000000) (hi : ∀ Q : List D → En → Prop, i.run env Q = Q items env) (hv : ∀ v ∈ vs, v < env.length ∧ (env.getD v .no).plain)
    (hs : ∀ k (h : k < items.length), g.run items[k] (wipeE env vs) fun e2 => e.run e2 fun r e4 => dat e4 r fun d e5 => d = .int (coef out k) ∧ wipeE e5 vs = wipeE env vs)
    (hd : Q (.fr (iL out)) (unwipe (wipeE env vs) env vs)) : LcF i g tYesD e vs env Q f :=
  lc_map items (iL out) (by rw [iL_len, hl]) (by rw [iL_len]; exact hn) hi hv (fun k h => by
    have := hs k h
    refine CT.mono' (fun e2 q => ?_) this
    refine e.mono _ _ _ (fun r e4 q => dat_mono (fun d e5 q => ?_) q) q
    refine ⟨?_, q.2⟩
    rw [q.1, iL_get (by omega), coef_lt (by omega)]) hd
end Dn

set_option Elab.async false
set_option linter.all false
set_option maxRecDepth 100000
set_option maxHeartbeats 4000000
/-! Dn, part 13: xs[::-1]. -/
namespace Dn
open PySem PySem.Spec PyProof.Rows L2
section
variable {X : Cx} {e : Expr} {te : DE} {k : Nat} {p1 p2 p3 pos : Pos}
theorem de_rev1 (he : PE X e (LE X te)) : PE X (.Subscript e (.Slice none none (some (.UnaryOp .USub (.Constant (.int 1) k p1) p2)) p3) pos) (LE X (eOp1 revR te)) :=
  pe_imp (pe_revL he) fun σ H Q q => op1_down (r := fun x H1 Q => ∃ a xs, x = .ref a ∧ SqL X.K H1 a xs ∧ ∀ p, H1 p = none → Q (.ref p) (upd H1 p (.lst xs.reverse))) (fun C F H σ env fp v d Q S hv c q => by
      cases d <;> first | exact (show False from c).elim | skip
      · obtain ⟨p, vs, rfl, h1, h2⟩ := hv
        exact ⟨p, vs, rfl, SqL.of h1, fun l hl => post_fr S h2.rev q hl⟩
      · obtain ⟨p, vs, rfl, h1, h2⟩ := rt_frz hv
        exact ⟨p, vs, rfl, S.fh.seq h1, fun l hl => post_fr S h2.rev q hl⟩) q
end
@[simp] theorem rev_l {ds : List D} : revR (.lst ds) = (True, .fr ds.reverse) := rfl
@[simp] theorem and_ii {i j : Int} : andR (.int i) (.int j) = (True, .sh (.int (Builtin.bitAnd i j))) := rfl
end Dn

set_option Elab.async false
set_option linter.all false
set_option maxRecDepth 100000
set_option maxHeartbeats 4000000
/-! Dn, part 14: one own error, raised and caught. -/
namespace Dn
open PySem PySem.Spec PyProof.Rows L2
/-- a def that may raise the one error -/
structure SpecX where
  A : Type
  args : A → List D
  pre : A → Prop
  rz : A → Prop
  post : A → Rv → Prop
def SpecX.run (s : SpecX) (ds : List D) (Q : Rv → Prop) (E : Prop) : Prop := ∃ x, ds = s.args x ∧ s.pre x ∧ (s.rz x → E) ∧ (¬ s.rz x → ∀ r, s.post x r → Q r)
def spOfX (K : PySem.W.Frag) (mg : Str → Option Value) (cls : Value) (s : SpecX) : Sp := fun vs H Q E => ∃ F ds, Same F H ∧ Reps K mg F vs ds ∧ s.run ds
  (fun r => ∀ F' H' v, Same H H' → Same F F' → Same F' H' → (∀ a, F' a ≠ none → F a ≠ none ∨ H a = none) → RvR K mg F' H H' v r → Q v H')
  (∀ F' H', Same H H' → Same F F' → Same F' H' → (∀ a, F' a ≠ none → F a ≠ none ∨ H a = none) → E cls none H')
/-- statements and expressions that may raise it -/
structure DX where
  run : DEnds → (En → Prop) → En → Prop
  mono : ∀ (D D' : DEnds) (E E' : En → Prop) env, D.Le D' → (∀ e, E e → E' e) → run D E env → run D' E' env
structure DEX where
  run : En → (Rv → En → Prop) → (En → Prop) → Prop
  mono : ∀ env (Q Q' : Rv → En → Prop) (E E' : En → Prop), (∀ r e, Q r e → Q' r e) → (∀ e, E e → E' e) → run env Q E → run env Q' E'
theorem DX.to (t : DX) {D D' : DEnds} {E E' : En → Prop} {env : En} (q : t.run D E env) (h : D.Le D') (k : ∀ e, E e → E' e) : t.run D' E' env := t.mono D D' E E' env h k q
def upX (X : Cx) (C : Cn) (F : Hp) (W : L2.St → Hp → Prop) : En → Prop := fun env' => ∀ F' H' σ' fp', SR X.K X.mg C F' H' σ' env' fp' → Same F F' → W σ' H'
def LSX (X : Cx) (cls : Value) (W : WX) (t : DX) : TS := fun D σ H => ∃ C F env fp, SR X.K X.mg C F H σ env fp ∧ t.run (upE X C F D) (upX X C F fun σ' H' => W cls none σ' H') env
def LEX (X : Cx) (cls : Value) (W : WX) (t : DEX) : TE := fun σ H Q => ∃ C F env fp, SR X.K X.mg C F H σ env fp ∧ t.run env (EPost X C F σ Q) (fun env' => ∀ F' H' fp', SR X.K X.mg C F' H' σ env' fp' → Same F F' → W cls none σ H')
section
variable {X : Cx} {cls : Value} {W : WX} {st : Stmt} {sts rest xs ys : List Stmt} {e a b c : Expr} {es : List Expr} {te : DE} {tc : DT} {tr : DA} {d : DS} {t u : DX} {ta tb : DEX} {pos p apos : Pos} {x : Str}
def xLift (d : DS) : DX where
  run D _ env := d.run D env
  mono D D' _ _ env h _ q := d.mono _ _ _ h q
theorem dxs_lift (h : PSs X sts (LS X d)) : PSs X sts (LSX X cls W (xLift d)) := h
theorem dx_lift (h : PS X st (LS X d)) : PS X st (LSX X cls W (xLift d)) := h
def xRaise : DX where
  run _ E env := E env
  mono _ _ _ _ _ _ h q := h _ q
theorem dx_raise {C : Addr} (hc : X.calm = true) (tk : Takes X W) (he : PMk X e (fun _ H Q => Q (.ref C) none H)) : PS X (.Raise (some e) none pos) (LSX X (.ref C) W xRaise) := by
  refine ps_imp (ps_raise hc tk he) fun D σ H q => ?_
  obtain ⟨C', F, env, fp, S, q⟩ := q
  exact q F H σ fp S (Same.refl F)
def xSeq (t u : DX) : DX where
  run D E env := t.run { D with nx := fun e => u.run D E e } E env
  mono D D' E E' env h k q := t.mono _ _ _ _ _ (h.withNx fun e q => u.mono _ _ _ _ _ h k q) k q
theorem upX_up {C : Cn} {F F' : Hp} {W : L2.St → Hp → Prop} (s : Same F F') {env : En} (h : upX X C F W env) : upX X C F' W env := fun F2 H2 σ2 fp2 S2 s2 => h F2 H2 σ2 fp2 S2 (s.trans s2)
theorem dxs_cons (h1 : PS X st (LSX X cls W t)) (h2 : PSs X rest (LSX X cls W u)) : PSs X (st :: rest) (LSX X cls W (xSeq t u)) := by
  refine pss_imp (pss_cons h1 h2) fun D σ H q => ?_
  obtain ⟨C, F, env, fp, S, q⟩ := q
  refine ⟨C, F, env, fp, S, t.to q ⟨fun e q F' H' σ' fp' S' s' => ?_, fun _ _ q => q, fun _ q => q, fun _ q => q⟩ (fun _ q => q)⟩
  exact ⟨C, F', e, fp', S', u.mono _ _ _ _ _ (upE_le s') (fun _ q => upX_up s' q) q⟩
theorem dxs_one (h1 : PS X st (LSX X cls W t)) : PSs X [st] (LSX X cls W t) := pss_one h1
def xIf (c : DT) (t u : DX) : DX where
  run D E env := c.run env fun b e1 => if b = true then t.run D E e1 else u.run D E e1
  mono D D' E E' env h k q := by
    refine c.mono _ _ _ (fun b e1 q => ?_) q
    cases b
    · exact u.mono _ _ _ _ _ h k q
    · exact t.mono _ _ _ _ _ h k q
theorem dx_if (hc : PT X c (LT X tc)) (ha : PSs X xs (LSX X cls W t)) (hb : PSs X ys (LSX X cls W u)) : PS X (.If c xs ys pos) (LSX X cls W (xIf tc t u)) := by
  refine ps_imp (ps_if hc ha hb) fun D σ H q => ?_
  obtain ⟨C, F, env, fp, S, q⟩ := q
  refine ⟨C, F, env, fp, S, tc.mono _ _ _ (fun b e1 q F' H' fp' S' s' => ?_) q⟩
  cases b with
  | true => exact ⟨C, F', e1, fp', S', t.mono _ _ _ _ _ (upE_le s') (fun _ q => upX_up s' q) q⟩
  | false => exact ⟨C, F', e1, fp', S', u.mono _ _ _ _ _ (upE_le s') (fun _ q => upX_up s' q) q⟩
/-- f(args), f may raise -/
def xCall (s : SpecX) (as : DA) : DEX where
  run env Q E := as.run env fun ds e1 => s.run ds (fun r => Q r e1) (E e1)
  mono env Q Q' E E' h k q := by
    refine as.mono _ _ _ (fun ds e1 q => ?_) q
    obtain ⟨x, h1, h2, h3, h4⟩ := q
    exact ⟨x, h1, h2, fun z => k _ (h3 z), fun z r hr => h _ _ (h4 z r hr)⟩
theorem callX_down {s : SpecX} {σ : L2.St} {H : Hp} {Q : VK} (q : LEX X cls W (xCall s tr) σ H Q) : tCallS (spOfX X.K X.mg cls s) (WE W) (LA X tr) σ H Q := by
  obtain ⟨C, F, env, fp, S, q⟩ := q
  refine ⟨C, F, env, fp, S, tr.mono _ _ _ (fun ds e1 q F1 H1 fp1 vs S1 s1 r1 => ?_) q⟩
  obtain ⟨y, h1, h2, h3, h4⟩ := q
  refine ⟨F1, ds, S1.fh, r1, y, h1, h2, fun z F' H' hh ff fh fn => ?_, fun z r hr F' H' v hh ff fh fn rv => ?_⟩
  · exact h3 z F' H' fp1 (S1.grow hh ff fh fn) (s1.trans ff)
  · have q := h4 z r hr
    have S2 := S1.grow hh ff fh fn
    cases r with
    | sh d => exact q F' H' fp1 v S2 (s1.trans ff) rv
    | bo i => exact (show False from rv).elim
    | fr zs =>
      obtain ⟨p, ws, rfl, a, b, c, d⟩ := rv
      obtain ⟨f1, f2, f3, f4, f5⟩ := S1.fresh a
      exact q F' H' fp1 _ S2 (s1.trans ff) ⟨p, ws, rfl, b, f2, c, d, f4, f5⟩
theorem dex_call {k : Nat} {f : Addr} {fd : FuncData} {ps : List Str} {s : SpecX} (Fn : FnOk X.prog X.w X.K X.mg X.base (L2.CX X.prog X.w) k f fd ps (spOfX X.K X.mg cls s)) (tk : Takes X W) (hr : Room k X.A) (hg : Gl X x) (hm : X.mg x = some (.ref f)) (hk : PySem.W.keepIn X.K (.ref f) = true) (hb : Binds X.K fd ps [])
    (ha : PA X (a :: es) (LA X tr)) (hdb : (x == ("__debug__" : Str)) = false := by decide) (he : starEach (a :: es) X.env = (false, eval a X.env) :: starEach es X.env := by rfl) (hpl : (backTo pos (starEach es X.env)).any (·.1) = false := by rfl) :
    PE X (.Call (.Name x p) (a :: es) [] pos) (LEX X cls W (xCall s tr)) :=
  pe_imp (pe_callS Fn hr hg hm hk hb (fun σ => passAt tk σ) ha hdb he hpl) fun σ H Q q => callX_down q
def xIfE (t : DT) (a b : DEX) : DEX where
  run env Q E := t.run env fun c e1 => if c = true then a.run e1 Q E else b.run e1 Q E
  mono env Q Q' E E' h k q := by
    refine t.mono _ _ _ (fun c e q => ?_) q
    cases c
    · exact b.mono _ _ _ _ _ h k q
    · exact a.mono _ _ _ _ _ h k q
theorem dex_if (hc : PT X c (LT X tc)) (ha : PE X a (LEX X cls W ta)) (hb : PE X b (LEX X cls W tb)) : PE X (.IfExp c a b pos) (LEX X cls W (xIfE tc ta tb)) := by
  refine pe_imp (pe_ifExp hc ha hb) fun σ H Q q => ?_
  obtain ⟨C, F, env, fp, S, q⟩ := q
  refine ⟨C, F, env, fp, S, tc.mono _ _ _ (fun c e q F' H' fp' S' s' => ?_) q⟩
  cases c with
  | true => exact ⟨C, F', e, fp', S', ta.mono _ _ _ _ _ (fun r e q => q.up s') (fun e q F2 H2 fp2 S2 s2 => q F2 H2 fp2 S2 (s'.trans s2)) q⟩
  | false => exact ⟨C, F', e, fp', S', tb.mono _ _ _ _ _ (fun r e q => q.up s') (fun e q F2 H2 fp2 S2 s2 => q F2 H2 fp2 S2 (s'.trans s2)) q⟩
def xRet (e : DEX) : DX where
  run D E env := e.run env (fun r e1 => match r with
    | .sh d => D.rt (.sh d) e1
    | .fr ds => D.rt (.fr ds) e1
    | .bo _ => False) E
  mono D D' E E' env h k q := by
    refine e.mono _ _ _ _ _ (fun r e1 q => ?_) k q
    split at q
    · exact h.rt _ _ q
    · exact h.rt _ _ q
    · exact q.elim
theorem dx_ret (he : PE X e (LEX X cls W ta)) : PS X (.Return (some e) pos) (LSX X cls W (xRet ta)) := by
  refine ps_imp (ps_ret he) fun D σ H q => ?_
  obtain ⟨C, F, env, fp, S, q⟩ := q
  refine ⟨C, F, env, fp, S, ta.mono _ _ _ _ _ (fun r e1 q F' H' fp' v S' s' rv => ?_) (fun e1 q F' H' fp' S' s' => q F' H' σ fp' S' s') q⟩
  split at q
  · exact q F' H' σ fp' v S' s' rv
  · exact q F' H' σ fp' v S' s' rv
  · exact q.elim
/-- try: body, except the error: suite -/
def sTry (t : DX) (d : DS) : DS where
  run D env := t.run D (fun e => d.run D e) env
  mono D D' env h q := t.mono _ _ _ _ _ h (fun e q => d.mono _ _ _ h q) q
theorem ds_try {C : Addr} {body suite : List Stmt} {b₀ : Stmt} {np pos' : Pos} (hs : X.stack = X.env :: X.outer) (hf : X.env.frame = some X.env.locals) (hc : Names X x (.ref C)) (hex : PySem.W.exmOne X.K (.ref C) (.ref C) = some true)
    (hb : ∀ (W : WX) (pn : List (Addr × Obj)) (xe : Value → Shared → Prop), Takes (X.tr pn xe) W → PSs (X.tr pn xe) body (LSX X (.ref C) W t))
    (hsu : ∀ (a : Addr) (oe : Obj) (pn : List (Addr × Obj)), PSs (X.suite a ((a, oe) :: pn)) (b₀ :: suite) (LS X d)) :
    PS X (.Try body [.ExceptHandler (some (.Name x np)) none (b₀ :: suite) pos'] [] [] pos) (LS X (sTry t d)) := by
  refine ps_imp (ps_try_only (c := .ref C) (tb := fun W => LSX X (.ref C) W t) (ts := fun _ _ _ => LS X d) (Wout := fun _ _ _ _ => False) hs hf hc takes0 (fun W pn xe tk _ => hb W pn xe tk) (fun a oe cl dd pn _ _ => hsu a oe pn)) fun D σ H q => ?_
  obtain ⟨C', F, env, fp, S, q⟩ := q
  refine ⟨C', F, env, fp, S, t.mono _ _ _ _ _ ⟨fun _ q => q, fun _ _ q => q, fun _ q => q, fun _ q => q⟩ (fun e q F' H' σ' fp' S' s' => ?_) q⟩
  exact ⟨true, hex, fun _ a ha => ⟨C', F', e, fp', S', d.mono _ _ _ (upE_le s') q⟩, fun h => by cases h⟩
end
/-! defs -/
def SpecX.Ok (s : SpecX) (n : Nat) (t : DX) : Prop := ∀ x, s.pre x → t.run (retE fun r => ¬ s.rz x ∧ s.post x r) (fun _ => s.rz x) (entry n (s.args x))
section
variable {P : Program} {w : World} {K : PySem.W.Frag} {mg : Str → Option Value} {base : Heap}
theorem fn_okX {x qual : Str} {st : Stmt} {f : Addr} {fd : FuncData} {N ps : List Str} {k : Nat} {s : SpecX} {t : DX} {cls : Value} (Fn : Fun K x qual st f fd) (S : FnScope N ps (defScope st)) (hl : ∀ x, (s.args x).length = ps.length) (ok : s.Ok N.length t)
    (hbody : ∀ (cdv : Value) (A : Around) (outer : List Env) (s₀ : Shared) (H : Hp) (E : XK), Room k (A.deeper (envOfC qual (defScope st) s₀.heap.objs.size f cdv)) → PSs (cxOf (L2.CX P w) P w K mg base N qual (defScope st) f cdv A outer s₀ H E) (defBody st) (LSX (cxOf (L2.CX P w) P w K mg base N qual (defScope st) f cdv A outer s₀ H E) cls (fun c d _ H => E c d H) t)) :
    FnOk P w K mg base (L2.CX P w) (k + 1) f fd ps (spOfX K mg cls s) := by
  have hlen : ∀ vs H Q E, spOfX K mg cls s vs H Q E → vs.length = ps.length := fun vs H Q E h => by
    obtain ⟨F, ds, _, r, y, e, _⟩ := h
    rw [r.len, e]
    exact hl y
  have hN : ps.length ≤ N.length := by
    have := congrArg List.length S.pre
    rw [List.length_take] at this
    omega
  refine Fn.okX S hlen fun cdv A outer s₀ H vs Q E hr h => ⟨_, hbody cdv A outer s₀ H E hr, ?_⟩
  have hv := hlen vs H Q E h
  obtain ⟨F, ds, fh, r, y, rfl, hp, qx, q⟩ := h
  refine ⟨_, F, _, _, sr_entry fh r (by omega), t.to (ok y hp) ⟨fun e p F' H' σ' fp' S' s' => ?_, fun rv e p F' H' σ' fp' v S' s' rr => ?_, fun e p => p.elim, fun e p => p.elim⟩ (fun e p F' H' σ' fp' S' s' => ?_)⟩
  · have p : ¬ s.rz y ∧ s.post y (.sh .non) := p
    exact q p.1 _ p.2 F' H' .non (fun a o e => S'.bh a o (by simp) e) s' S'.fh S'.fn .non
  · cases rv with
    | bo i => exact (show False from p).elim
    | sh z =>
      have p : ¬ s.rz y ∧ s.post y (.sh z) := p
      exact q p.1 _ p.2 F' H' v (fun a o e => S'.bh a o (by simp) e) s' S'.fh S'.fn rr
    | fr z =>
      have p : ¬ s.rz y ∧ s.post y (.fr z) := p
      obtain ⟨p', us, rfl, a, b, c, d, _⟩ := rr
      exact q p.1 _ p.2 F' H' _ (fun a o e => S'.bh a o (by simp) e) s' S'.fh S'.fn ⟨p', us, rfl, b, a, c, d⟩
  · exact qx p F' H' (fun a o e => S'.bh a o (by simp) e) s' S'.fh S'.fn
end
end Dn
namespace Dn
open PySem PySem.Spec PyProof.Rows L2
/-! how they run -/
def SpecX.Run (s : SpecX) (ds : List D) (Q : Rv → Prop) (E : Prop) (_ : Fx Q) : Prop := s.run ds Q E
def DEnds.sqX (D : DEnds) (u : DX) (E : En → Prop) : DEnds := { D with nx := fun e => u.run D E e }
@[simp ↓] theorem sqX_nx {D : DEnds} {u : DX} {E : En → Prop} {e : En} : (D.sqX u E).nx e = u.run D E e := rfl
@[simp] theorem sqX_rt {D : DEnds} {u : DX} {E : En → Prop} : (D.sqX u E).rt = D.rt := rfl
@[simp] theorem sqX_bk {D : DEnds} {u : DX} {E : En → Prop} : (D.sqX u E).bk = D.bk := rfl
@[simp] theorem sqX_ct {D : DEnds} {u : DX} {E : En → Prop} : (D.sqX u E).ct = D.ct := rfl
section
variable {D' : DEnds} {E : En → Prop} {env : En} {t u : DX} {d : DS} {c : DT} {a b : DEX} {s : SpecX} {r : DA} {Q : Rv → En → Prop}
@[simp ↓] theorem r_xLift : (xLift d).run D' E env = d.run D' env := rfl
@[simp ↓] theorem r_xRaise : xRaise.run D' E env = E env := rfl
@[simp ↓] theorem r_xSeq : (xSeq t u).run D' E env = t.run (D'.sqX u E) E env := rfl
@[simp ↓] theorem r_xIf : (xIf c t u).run D' E env = c.run env fun b e1 => if b = true then t.run D' E e1 else u.run D' E e1 := rfl
@[simp ↓] theorem r_xCall : (xCall s r).run env Q E = r.run env fun ds e1 => s.Run ds (fun v => Q v e1) (E e1) ⟨⟩ := rfl
@[simp ↓] theorem r_xIfE : (xIfE c a b).run env Q E = c.run env fun k e1 => if k = true then a.run e1 Q E else b.run e1 Q E := rfl
@[simp ↓] theorem r_xRet : (xRet a).run D' E env = a.run env (fun r e1 => match r with
    | .sh d => D'.rt (.sh d) e1
    | .fr ds => D'.rt (.fr ds) e1
    | .bo _ => False) E := rfl
@[simp ↓] theorem r_sTry : (sTry t d).run D' env = t.run D' (fun e => d.run D' e) env := rfl
end
/-- a promise that tells the answer, or the error -/
def SpecX.det (A : Type) (args : A → List D) (pre : A → Prop) (rz : A → Prop) (res : A → Rv) : SpecX := ⟨A, args, pre, rz, fun x r => r = res x⟩
theorem SpecX.go (s : SpecX) (x : s.A) {ds : List D} {Q : Rv → Prop} {E : Prop} {f : Fx Q} (e : ds = s.args x) (h : s.pre x) (z : s.rz x → E) (q : ¬ s.rz x → ∀ r, s.post x r → Q r) : s.Run ds Q E f := ⟨x, e, h, z, q⟩
end Dn

set_option Elab.async false
set_option linter.all false
set_option maxRecDepth 100000
set_option maxHeartbeats 4000000
/-! Dn, part 15: reversed(range(n)), list(range(n)). -/
namespace Dn
open PySem PySem.Spec PyProof.Rows L2
section
variable {X : Cx} {a tg : Expr} {te : DE} {p p2 pos pos2 : Pos}
def iRevR1 (e : DE) : DI where
  run env Q := e.run env fun r e1 => match r with
    | .sh (.int j) => Sm j ∧ Q (rangeC (j.toNat - 1) (-1) j.toNat) e1
    | _ => False
  mono env Q Q' h q := by
    refine e.mono _ _ _ (fun r e1 q => ?_) q
    split at q
    · exact ⟨q.1, h _ _ q.2⟩
    · exact q.elim
theorem di_revR1 (hg : Gl X "reversed") (hm : X.mg "reversed" = none) (hg2 : Gl X "range") (hm2 : X.mg "range" = none) (ha : PE X a (LE X te))
    (na : starEach [a] X.env = (false, eval a X.env) :: starEach [] X.env := by rfl) (hs : starEach [.Call (.Name "range" p2) [a] [] pos2] X.env = (false, eval (.Call (.Name "range" p2) [a] [] pos2) X.env) :: starEach [] X.env := by rfl) :
    PI X tg (.Call (.Name "reversed" p) [.Call (.Name "range" p2) [a] [] pos2] [] pos) (LI X (iRevR1 te)) := by
  refine pi_imp (pi_revR hg hm (prg_1 hg2 hm2 ha na) hs) fun σ H R q => ?_
  obtain ⟨C, F, env, fp, S, q⟩ := q
  refine ⟨C, F, env, fp, S, te.mono _ _ _ (fun r e1 q F1 H1 fp1 v S1 s1 r1 => ?_) q⟩
  split at q
  · rename_i j
    cases r1
    obtain ⟨⟨q1, q2⟩, q⟩ := q
    refine ⟨j, rfl, by omega, by omega, by omega, by omega, ?_⟩
    have := q F1 H1 fp1 (Itc ((j.toNat : Int) - 1) (-1) j.toNat) S1 s1 jokC
    have e : (0 : Int) + (((j - 0).toNat : Nat) : Int) - 1 = (j.toNat : Int) - 1 := by rw [Int.sub_zero, Int.zero_add]
    rw [e, Int.sub_zero]
    exact this
  · exact q.elim
@[simp ↓] theorem r_revR1 {env : En} {QI : List D → En → Prop} : (iRevR1 te).run env QI = te.run env fun r e1 => match r with
    | .sh (.int j) => Sm j ∧ QI (rangeC (j.toNat - 1) (-1) j.toNat) e1
    | _ => False := rfl
end
end Dn

set_option Elab.async false
set_option linter.all false
set_option maxRecDepth 100000
set_option maxHeartbeats 4000000
/-! Dn, part 16: a list taken apart. -/
namespace Dn
open PySem PySem.Spec PyProof.Rows L2
section
variable {X : Cx} {pos : Pos}
def gLstD (n : Nat) (t : DGs) : DG where
  run d env Q := match d with
    | .lst ds => ds.length = n ∧ t.run ds env Q
    | _ => False
  mono d _ _ _ h q := by
    cases d <;> first | exact (show False from q).elim | exact ⟨q.1, t.mono _ _ _ _ h q.2⟩
theorem dg_lst {es : List Expr} {k n : Nat} {gs : DGs} (hc : X.calm = true) (h : PGs X es (LGs X gs)) (hn : (assignEach es X.env).length = n := by rfl) (hst : (assignEach es X.env).findIdx? (·.1) = none := by rfl) : PG X (.Tuple es k pos) (LG X (gLstD n gs)) := by
  refine pg_imp (pg_lst hc h hn hst) fun v σ H Q q => ?_
  obtain ⟨C, F, env, fp, d, S, r, q⟩ := q
  cases r <;> first | exact (show False from q).elim | skip
  rename_i a vs ds h1 h2
  obtain ⟨q1, q2⟩ := q
  exact ⟨a, vs, rfl, SqL.of (S.fh _ _ h1), h2.len.trans q1, C, F, env, fp, ds, S, h2, q2⟩
@[simp ↓] theorem r_gLst {d : D} {n : Nat} {gs : DGs} {env : En} {QG : En → Prop} : (gLstD n gs).run d env QG = (match d with
    | .lst ds => ds.length = n ∧ gs.run ds env QG
    | _ => False) := rfl
end
end Dn

set_option Elab.async false
set_option linter.all false
set_option maxRecDepth 100000
set_option maxHeartbeats 4000000
set_option exponentiation.threshold 1000000
/-! fractions: data, sizes, specs -/
namespace Dn
open PySem PySem.Spec PyProof.Rows L2

def frD (r : Rat) : D := .tup [.int r.num, .int r.den]
theorem frD_inj {r s : Rat} (h : frD r = frD s) : r = s := by
  unfold frD at h
  simp only [D.tup.injEq, List.cons.injEq, D.int.injEq, and_true] at h
  exact Rat.ext h.1 (by omega)
@[simp] theorem frD_eq {r s : Rat} : (frD r = frD s) = (r = s) := propext ⟨frD_inj, fun h => by rw [h]⟩
@[simp] theorem ix_fr0 {r : Rat} : ixR (frD r) (.int 0) = (True, .sh (.int r.num)) := by simp [frD]
@[simp] theorem ix_fr1 {r : Rat} : ixR (frD r) (.int 1) = (True, .sh (.int r.den)) := by simp [frD]
@[simp] theorem len_fr {r : Rat} : lenR (frD r) = (True, .sh (.int 2)) := rfl
@[simp] theorem fin_fr {r : Rat} {n : Nat} : (frD r).fin (n + 1) = True := by simp [frD]
@[simp] theorem eqD_fr {r s : Rat} : eqD (frD r) (frD s) = decide (r = s) := by
  unfold frD
  simp only [eqD_tcons, eqD_ii, eqD_tnil, Bool.and_true]
  rw [← Bool.decide_and]
  congr 1
  apply propext
  constructor
  · rintro ⟨h1, h2⟩
    exact Rat.ext h1 (by omega)
  · rintro rfl
    exact ⟨rfl, rfl⟩
/-- a written pair of ints is a fraction -/
theorem frD_int (i : Int) : D.tup [.int i, .int 1] = frD (i : Rat) := rfl
/-! sizes -/
def Sz (n : Nat) (i : Int) : Prop := i.natAbs < 2 ^ n
def RSz (n : Nat) (r : Rat) : Prop := r.num.natAbs < 2 ^ n ∧ r.den < 2 ^ n
theorem Sz.up {n m : Nat} {i : Int} (h : Sz n i) (l : n ≤ m) : Sz m i := Nat.lt_of_lt_of_le h (Nat.pow_le_pow_right (by decide) l)
theorem RSz.up {n m : Nat} {i : Rat} (h : RSz n i) (l : n ≤ m) : RSz m i := ⟨Nat.lt_of_lt_of_le h.1 (Nat.pow_le_pow_right (by decide) l), Nat.lt_of_lt_of_le h.2 (Nat.pow_le_pow_right (by decide) l)⟩
theorem RSz.num {n : Nat} {r : Rat} (h : RSz n r) : Sz n r.num := h.1
theorem RSz.den {n : Nat} {r : Rat} (h : RSz n r) : Sz n r.den := h.2
theorem Sz.mul {n m : Nat} {i j : Int} (h : Sz n i) (h' : Sz m j) : Sz (n + m) (i * j) := wide_lt h h'
theorem Sz.add {n : Nat} {i j : Int} (h : Sz n i) (h' : Sz n j) : Sz (n + 1) (i + j) := by
  unfold Sz at *
  rw [Nat.pow_succ]
  omega
theorem Sz.sub {n : Nat} {i j : Int} (h : Sz n i) (h' : Sz n j) : Sz (n + 1) (i - j) := by
  unfold Sz at *
  rw [Nat.pow_succ]
  omega
theorem Sz.neg {n : Nat} {i : Int} (h : Sz n i) : Sz n (-i) := by unfold Sz at *; omega
theorem Sz.le {n : Nat} {i j : Int} (h : Sz n j) (l : i.natAbs ≤ j.natAbs) : Sz n i := Nat.lt_of_le_of_lt l h
theorem Sz.mulOk {n m : Nat} {i j : Int} (h : Sz n i) (h' : Sz m j) (l : n + m ≤ 999998) : IntMulOk i j :=
  (wide_mul (Sz.up h (Nat.le_add_right n 1)) (Sz.up h' (Nat.le_add_right m 1)) (by omega) (by omega) (by omega)).ok
theorem mulOkL {i j : Int} (h : i.natAbs < 2 ^ 64) : IntMulOk i j := .of_left (intBits_le_64 (by omega) (by omega))
theorem mulOkR {i j : Int} (h : j.natAbs < 2 ^ 64) : IntMulOk i j := .of_right (intBits_le_64 (by omega) (by omega))
theorem Sz.divOk {n : Nat} {i j : Int} (h : Sz n j) (l : n ≤ 9000) (h0 : j ≠ 0) : DivOk i j :=
  ⟨h0, PyProof.noPylong_of_log2 (Flt.log2_lt_of (k := 9000) (by decide) (Sz.up h l))⟩
theorem ratSz {n : Nat} {p q : Int} (h : Sz n p) (h' : Sz n q) (h0 : q ≠ 0) : RSz n (Rat.divInt p q) := by
  have hg : Int.gcd q p ≠ 0 := fun e => h0 (Int.gcd_eq_zero_iff.mp e).1
  refine ⟨?_, ?_⟩
  · rw [Rat.num_divInt]
    refine Nat.lt_of_le_of_lt ?_ h
    have e1 : (q.sign * p / (q.gcd p : Int)).natAbs ≤ (q.sign * p).natAbs := by
      rw [Int.natAbs_ediv_of_dvd (Int.dvd_trans (Int.gcd_dvd_right ..) (Int.dvd_mul_left ..))]
      exact Nat.div_le_self _ _
    refine Nat.le_trans e1 ?_
    rw [Int.natAbs_mul]
    have : q.sign.natAbs ≤ 1 := by
      rcases Int.lt_trichotomy q 0 with z | z | z
      · rw [Int.sign_eq_neg_one_of_neg z]; decide
      · exact absurd z h0
      · rw [Int.sign_eq_one_of_pos z]; decide
    calc q.sign.natAbs * p.natAbs ≤ 1 * p.natAbs := Nat.mul_le_mul_right _ this
      _ = p.natAbs := Nat.one_mul _
  · rw [Rat.den_divInt, if_neg h0]
    exact Nat.lt_of_le_of_lt (Nat.div_le_self _ _) h'
theorem Sz.of_nat {n : Nat} {k : Nat} (h : k < 2 ^ n) : Sz n (k : Int) := h
theorem RSz.of_mk {n d : Nat} {p : Int} {k : Nat} (h : Sz n p) (h' : k < 2 ^ n) (h0 : k ≠ 0) : RSz n (mkRat p k) := by
  have := ratSz (q := (k : Int)) h h' (by omega)
  rwa [Rat.divInt_ofNat] at this
theorem RSz.add {n m : Nat} {r s : Rat} (h : RSz n r) (h' : RSz m s) : RSz (n + m + 1) (r + s) := by
  rw [Rat.add_def']
  refine RSz.of_mk (d := 0) ?_ ?_ (Nat.mul_ne_zero r.den_nz s.den_nz)
  · exact Sz.add (n := n + m) (h.num.mul h'.den) (by rw [Nat.add_comm]; exact h'.num.mul h.den)
  · have := h.den.mul h'.den
    exact this.up (Nat.le_succ _)
theorem RSz.sub {n m : Nat} {r s : Rat} (h : RSz n r) (h' : RSz m s) : RSz (n + m + 1) (r - s) := by
  rw [Rat.sub_def']
  refine RSz.of_mk (d := 0) ?_ ?_ (Nat.mul_ne_zero r.den_nz s.den_nz)
  · exact Sz.sub (n := n + m) (h.num.mul h'.den) (by rw [Nat.add_comm]; exact h'.num.mul h.den)
  · have := h.den.mul h'.den
    exact this.up (Nat.le_succ _)
theorem RSz.mul {n m : Nat} {r s : Rat} (h : RSz n r) (h' : RSz m s) : RSz (n + m) (r * s) := by
  rw [Rat.mul_def']
  exact RSz.of_mk (d := 0) (h.num.mul h'.num) (h.den.mul h'.den) (Nat.mul_ne_zero r.den_nz s.den_nz)
theorem RSz.int {n : Nat} {i : Int} (h : Sz n i) (hn : 0 < n) : RSz n (i : Rat) := ⟨h, by show 1 < 2 ^ n; exact Nat.one_lt_two_pow (by omega)⟩
theorem div_divInt (r s : Rat) : r / s = Rat.divInt (r.num * s.den) (r.den * s.num) := by
  rw [Rat.div_def, Rat.inv_def]
  conv => lhs; rw [← Rat.num_divInt_den r]
  rw [Rat.divInt_mul_divInt]
theorem RSz.div {n m : Nat} {r s : Rat} (h : RSz n r) (h' : RSz m s) (h0 : s ≠ 0) : RSz (n + m) (r / s) := by
  rw [div_divInt]
  refine ratSz (h.num.mul h'.den) (h.den.mul h'.num) ?_
  have h1 : s.num ≠ 0 := fun e => h0 (Rat.num_eq_zero.mp e)
  have h2 : (r.den : Int) ≠ 0 := by have := r.den_nz; omega
  exact Int.mul_ne_zero h2 h1
/-! what the defs promise -/
def sp_common_divisor : Spec := .det (Int × Int) (fun x => [.int x.1, .int x.2]) (fun _ => True) fun x => .sh (.int (Int.gcd x.1 x.2))
def sp_ratio : Spec := .det (Int × Int) (fun x => [.int x.1, .int x.2]) (fun x => x.2 ≠ 0 ∧ Sz 9000 x.2) fun x => .sh (frD (Rat.divInt x.1 x.2))
def sp_plus : Spec := .det (Rat × Rat) (fun x => [frD x.1, frD x.2]) (fun x => RSz 4000 x.1 ∧ RSz 4000 x.2) fun x => .sh (frD (x.1 + x.2))
def sp_minus : Spec := .det (Rat × Rat) (fun x => [frD x.1, frD x.2]) (fun x => RSz 4000 x.1 ∧ RSz 4000 x.2) fun x => .sh (frD (x.1 - x.2))
def sp_times : Spec := .det (Rat × Rat) (fun x => [frD x.1, frD x.2]) (fun x => RSz 4000 x.1 ∧ RSz 4000 x.2) fun x => .sh (frD (x.1 * x.2))
def sp_over : Spec := .det (Rat × Rat) (fun x => [frD x.1, frD x.2]) (fun x => RSz 4000 x.1 ∧ RSz 4000 x.2 ∧ x.2 ≠ 0) fun x => .sh (frD (x.1 / x.2))
def sp_sign : Spec := .det Int (fun x => [.int x]) (fun _ => True) fun x => .sh (.int x.sign)
def cmpR (x y : Rat) : Int := if x < y then -1 else if y < x then 1 else 0
def sp_compare : Spec := .det (Rat × Rat) (fun x => [frD x.1, frD x.2]) (fun x => RSz 400000 x.1 ∧ RSz 400000 x.2) fun x => .sh (.int (cmpR x.1 x.2))
def sp_floor_of : Spec := .det Rat (fun x => [frD x]) (fun x => RSz 9000 x) fun x => .sh (.int x.floor)
def sp_ceiling_of : Spec := .det Rat (fun x => [frD x]) (fun x => RSz 9000 x) fun x => .sh (.int x.ceil)
section
variable {Q : Rv → Prop} {f : Fx Q}
theorem inj_ii {x y : Int × Int} (h : [D.int x.1, D.int x.2] = [D.int y.1, D.int y.2]) : x = y := by
  obtain ⟨a, b⟩ := x
  obtain ⟨c, d⟩ := y
  simp only [List.cons.injEq, D.int.injEq, and_true] at h
  rw [h.1, h.2]
theorem inj_ff {x y : Rat × Rat} (h : [frD x.1, frD x.2] = [frD y.1, frD y.2]) : x = y := by
  obtain ⟨a, b⟩ := x
  obtain ⟨c, d⟩ := y
  simp only [List.cons.injEq, frD_eq, and_true] at h
  rw [h.1, h.2]
@[simp ↓] theorem c_common_divisor {a b : Int} : sp_common_divisor.Run [.int a, .int b] Q f = Q (.sh (.int (Int.gcd a b))) := (Spec.det_run (fun _ _ => inj_ii) (a, b)).trans (true_and _)
@[simp ↓] theorem c_ratio {a b : Int} : sp_ratio.Run [.int a, .int b] Q f = ((b ≠ 0 ∧ Sz 9000 b) ∧ Q (.sh (frD (Rat.divInt a b)))) := Spec.det_run (fun _ _ => inj_ii) (a, b)
@[simp ↓] theorem c_plus {a b : Rat} : sp_plus.Run [frD a, frD b] Q f = ((RSz 4000 a ∧ RSz 4000 b) ∧ Q (.sh (frD (a + b)))) := Spec.det_run (fun _ _ => inj_ff) (a, b)
@[simp ↓] theorem c_minus {a b : Rat} : sp_minus.Run [frD a, frD b] Q f = ((RSz 4000 a ∧ RSz 4000 b) ∧ Q (.sh (frD (a - b)))) := Spec.det_run (fun _ _ => inj_ff) (a, b)
@[simp ↓] theorem c_times {a b : Rat} : sp_times.Run [frD a, frD b] Q f = ((RSz 4000 a ∧ RSz 4000 b) ∧ Q (.sh (frD (a * b)))) := Spec.det_run (fun _ _ => inj_ff) (a, b)
@[simp ↓] theorem c_over {a b : Rat} : sp_over.Run [frD a, frD b] Q f = ((RSz 4000 a ∧ RSz 4000 b ∧ b ≠ 0) ∧ Q (.sh (frD (a / b)))) := Spec.det_run (fun _ _ => inj_ff) (a, b)
@[simp ↓] theorem c_sign {a : Int} : sp_sign.Run [.int a] Q f = Q (.sh (.int a.sign)) := (Spec.det_run (fun _ _ h => by simpa using h) a).trans (true_and _)
@[simp ↓] theorem c_compare {a b : Rat} : sp_compare.Run [frD a, frD b] Q f = ((RSz 400000 a ∧ RSz 400000 b) ∧ Q (.sh (.int (cmpR a b)))) := Spec.det_run (fun _ _ => inj_ff) (a, b)
@[simp ↓] theorem c_floor_of {a : Rat} : sp_floor_of.Run [frD a] Q f = (RSz 9000 a ∧ Q (.sh (.int a.floor))) := Spec.det_run (fun _ _ h => by simpa using h) a
@[simp ↓] theorem c_ceiling_of {a : Rat} : sp_ceiling_of.Run [frD a] Q f = (RSz 9000 a ∧ Q (.sh (.int a.ceil))) := Spec.det_run (fun _ _ h => by simpa using h) a
end
end Dn

set_option Elab.async false
set_option linter.all false
set_option maxRecDepth 100000
set_option maxHeartbeats 4000000
set_option exponentiation.threshold 1000000
/-! fractions: the defs keep their promises -/
namespace Dn
open PySem PySem.Spec PyProof.Rows L2
def d_common_divisor : DS :=
  (sSeq (sPar 0 1 (aCons (eOp1 absR (eVar 0)) (aCons (eOp1 absR (eVar 1)) aNil)))
  (sSeq (sWhile (tB (eOp gtR (eVar 1) (eC (.int 0)))) (sPar 0 1 (aCons (eVar 1) (aCons (eOp modR (eVar 0) (eVar 1)) aNil))))
  (sRet (eVar 0))))

def d_ratio : DS :=
  (sSeq (sIf (tB (eOp eqR (eVar 1) (eC (.int 0)))) sNever sNext)
  (sSeq (sSet 2 (eCall sp_common_divisor (aCons (eVar 0) (aCons (eVar 1) aNil))))
  (sSeq (sIf (tB (eOp ltR (eVar 1) (eC (.int 0)))) (sSet 2 (eOp1 negR (eVar 2))) sNext)
  (sRet (eTup (aCons (eOp fdivR (eVar 0) (eVar 2)) (aCons (eOp fdivR (eVar 1) (eVar 2)) aNil)))))))

def d_plus : DS :=
  (sRet (eCall sp_ratio (aCons (eOp addR (eOp mulR (eOp ixR (eVar 0) (eC (.int 0))) (eOp ixR (eVar 1) (eC (.int 1)))) (eOp mulR (eOp ixR (eVar 1) (eC (.int 0))) (eOp ixR (eVar 0) (eC (.int 1))))) (aCons (eOp mulR (eOp ixR (eVar 0) (eC (.int 1))) (eOp ixR (eVar 1) (eC (.int 1)))) aNil))))

def d_minus : DS :=
  (sRet (eCall sp_ratio (aCons (eOp subR (eOp mulR (eOp ixR (eVar 0) (eC (.int 0))) (eOp ixR (eVar 1) (eC (.int 1)))) (eOp mulR (eOp ixR (eVar 1) (eC (.int 0))) (eOp ixR (eVar 0) (eC (.int 1))))) (aCons (eOp mulR (eOp ixR (eVar 0) (eC (.int 1))) (eOp ixR (eVar 1) (eC (.int 1)))) aNil))))

def d_times : DS :=
  (sRet (eCall sp_ratio (aCons (eOp mulR (eOp ixR (eVar 0) (eC (.int 0))) (eOp ixR (eVar 1) (eC (.int 0)))) (aCons (eOp mulR (eOp ixR (eVar 0) (eC (.int 1))) (eOp ixR (eVar 1) (eC (.int 1)))) aNil))))

def d_over : DS :=
  (sRet (eCall sp_ratio (aCons (eOp mulR (eOp ixR (eVar 0) (eC (.int 0))) (eOp ixR (eVar 1) (eC (.int 1)))) (aCons (eOp mulR (eOp ixR (eVar 0) (eC (.int 1))) (eOp ixR (eVar 1) (eC (.int 0)))) aNil))))

def d_sign : DS :=
  (sSeq (sIf (tB (eOp gtR (eVar 0) (eC (.int 0)))) (sRet (eC (.int 1))) sNext)
  (sRet (eIf (tB (eOp ltR (eVar 0) (eC (.int 0)))) (eOp1 negR (eC (.int 1))) (eC (.int 0)))))

def d_compare : DS :=
  (sRet (eCall sp_sign (aCons (eOp subR (eOp mulR (eOp ixR (eVar 0) (eC (.int 0))) (eOp ixR (eVar 1) (eC (.int 1)))) (eOp mulR (eOp ixR (eVar 1) (eC (.int 0))) (eOp ixR (eVar 0) (eC (.int 1))))) aNil)))

def d_floor_of : DS :=
  (sRet (eOp fdivR (eOp ixR (eVar 0) (eC (.int 0))) (eOp ixR (eVar 0) (eC (.int 1)))))

def d_ceiling_of : DS :=
  (sRet (eOp1 negR (eOp fdivR (eOp1 negR (eOp ixR (eVar 0) (eC (.int 0)))) (eOp ixR (eVar 0) (eC (.int 1))))))

theorem abs_eq (a : Int) : (if a < 0 then -a else a) = (a.natAbs : Int) := by split <;> omega
theorem k_common_divisor : sp_common_divisor.Ok 2 d_common_divisor := by
  rintro ⟨a, b⟩ -
  simp [entry, sp_common_divisor, Spec.det]
  simp -dsimp [d_common_divisor, abs_eq]
  refine while_go (fun e => ∃ x y : Nat, e = [.sh (.int x), .sh (.int y)] ∧ Nat.gcd x y = Int.gcd a b) (fun e => match e with | [_, .sh (.int y)] => y.toNat | _ => 0) ⟨_, _, rfl, rfl⟩ ?_
  rintro e ⟨x, y, rfl, h⟩
  simp -dsimp
  by_cases hy : 0 < y
  · simp -dsimp [hy]
    refine ⟨by omega, ⟨y, x % y, ?_, ?_⟩, ?_⟩
    · rw [Int.fmod_eq_emod_of_nonneg _ (by omega)]; simp
    · rw [← h, Nat.gcd_comm x y, Nat.gcd_rec y x, Nat.gcd_comm]
    · rw [Int.fmod_eq_emod_of_nonneg _ (by omega)]
      have := Nat.mod_lt x hy
      omega
  · have : y = 0 := by omega
    subst this
    simp -dsimp
    rw [← h]; simp
theorem k_ratio : sp_ratio.Ok 3 d_ratio := by
  rintro ⟨p, q⟩ ⟨h0, hs⟩
  have h0 : q ≠ 0 := h0
  have hs : Sz 9000 q := hs
  simp [entry, sp_ratio, Spec.det]
  simp -dsimp [d_ratio, h0]
  have hg : Int.gcd p q ≠ 0 := fun e => h0 (Int.gcd_eq_zero_iff.mp e).2
  have hz : (Int.gcd p q : Int).natAbs ≤ q.natAbs := by
    have := Nat.le_of_dvd (by omega) (Int.gcd_dvd_natAbs_right p q)
    omega
  have dp : (Int.gcd p q : Int) ∣ p := Int.gcd_dvd_left ..
  have dq : (Int.gcd p q : Int) ∣ q := Int.gcd_dvd_right ..
  by_cases hq : q < 0
  · have hd : ∀ i : Int, DivOk i (-(Int.gcd p q : Int)) := fun i => Sz.divOk (n := 9000) (Sz.le hs (by omega)) (by decide) (by omega)
    simp -dsimp [hq, hd]
    unfold frD
    rw [Rat.num_divInt, Rat.den_divInt, if_neg h0, Int.sign_eq_neg_one_of_neg hq, Int.gcd_comm q p]
    simp only [D.tup.injEq, List.cons.injEq, D.int.injEq, and_true]
    refine ⟨?_, ?_⟩
    · rw [Int.fdiv_eq_ediv_of_dvd ((Int.neg_dvd).mpr dp), Int.ediv_neg, Int.neg_mul, Int.one_mul, Int.neg_ediv_of_dvd dp]
    · rw [Int.fdiv_eq_ediv_of_dvd ((Int.neg_dvd).mpr dq), Int.ediv_neg, ← Int.neg_ediv_of_dvd dq, Int.natCast_ediv]
      congr 1
      omega
  · have hd : ∀ i : Int, DivOk i (Int.gcd p q : Int) := fun i => Sz.divOk (n := 9000) (Sz.le hs (by omega)) (by decide) (by omega)
    simp -dsimp [hq, hd]
    unfold frD
    rw [Rat.num_divInt, Rat.den_divInt, if_neg h0, Int.sign_eq_one_of_pos (by omega), Int.gcd_comm q p]
    simp only [D.tup.injEq, List.cons.injEq, D.int.injEq, and_true]
    refine ⟨?_, ?_⟩
    · rw [Int.fdiv_eq_ediv_of_dvd dp, Int.one_mul]
    · rw [Int.fdiv_eq_ediv_of_dvd dq, Int.natCast_ediv]
      congr 1
      omega
theorem den_ne (r : Rat) : (r.den : Int) ≠ 0 := by have := r.den_nz; omega
theorem add_divInt (r s : Rat) : Rat.divInt (r.num * s.den + s.num * r.den) (r.den * s.den) = r + s := by
  conv => rhs; rw [← Rat.num_divInt_den r, ← Rat.num_divInt_den s]
  rw [Rat.divInt_add_divInt _ _ (den_ne r) (den_ne s)]
theorem sub_divInt (r s : Rat) : Rat.divInt (r.num * s.den - s.num * r.den) (r.den * s.den) = r - s := by
  conv => rhs; rw [← Rat.num_divInt_den r, ← Rat.num_divInt_den s]
  rw [Rat.divInt_sub_divInt _ _ (den_ne r) (den_ne s)]
theorem mul_divInt (r s : Rat) : Rat.divInt (r.num * s.num) (r.den * s.den) = r * s := by
  conv => rhs; rw [← Rat.num_divInt_den r, ← Rat.num_divInt_den s]
  rw [Rat.divInt_mul_divInt]
theorem k_plus : sp_plus.Ok 2 d_plus := by
  rintro ⟨x, y⟩ ⟨hx, hy⟩
  have hx : RSz 4000 x := hx
  have hy : RSz 4000 y := hy
  simp [entry, sp_plus, Spec.det]
  simp -dsimp [d_plus]
  exact ⟨hx.num.mulOk hy.den (by decide), hy.num.mulOk hx.den (by decide), hx.den.mulOk hy.den (by decide), ⟨⟨x.den_nz, y.den_nz⟩, Sz.up (hx.den.mul hy.den) (by decide)⟩, add_divInt x y⟩
theorem k_minus : sp_minus.Ok 2 d_minus := by
  rintro ⟨x, y⟩ ⟨hx, hy⟩
  have hx : RSz 4000 x := hx
  have hy : RSz 4000 y := hy
  simp [entry, sp_minus, Spec.det]
  simp -dsimp [d_minus]
  exact ⟨hx.num.mulOk hy.den (by decide), hy.num.mulOk hx.den (by decide), hx.den.mulOk hy.den (by decide), ⟨⟨x.den_nz, y.den_nz⟩, Sz.up (hx.den.mul hy.den) (by decide)⟩, sub_divInt x y⟩
theorem k_times : sp_times.Ok 2 d_times := by
  rintro ⟨x, y⟩ ⟨hx, hy⟩
  have hx : RSz 4000 x := hx
  have hy : RSz 4000 y := hy
  simp [entry, sp_times, Spec.det]
  simp -dsimp [d_times]
  exact ⟨hx.num.mulOk hy.num (by decide), hx.den.mulOk hy.den (by decide), ⟨⟨x.den_nz, y.den_nz⟩, Sz.up (hx.den.mul hy.den) (by decide)⟩, mul_divInt x y⟩
theorem k_over : sp_over.Ok 2 d_over := by
  rintro ⟨x, y⟩ ⟨hx, hy, h0⟩
  have hx : RSz 4000 x := hx
  have hy : RSz 4000 y := hy
  have h0 : y ≠ 0 := h0
  simp [entry, sp_over, Spec.det]
  simp -dsimp [d_over]
  exact ⟨hx.num.mulOk hy.den (by decide), hx.den.mulOk hy.num (by decide), ⟨⟨x.den_nz, h0⟩, Sz.up (hx.den.mul hy.num) (by decide)⟩, (div_divInt x y).symm⟩
theorem k_sign : sp_sign.Ok 1 d_sign := by
  intro (x : Int) _
  simp [entry, sp_sign, Spec.det]
  simp -dsimp [d_sign]
  split
  · exact (Int.sign_eq_one_of_pos (by assumption)).symm
  · split
    · exact (Int.sign_eq_neg_one_of_neg (by assumption)).symm
    · have : x = 0 := by omega
      subst this; rfl
theorem k_compare : sp_compare.Ok 2 d_compare := by
  rintro ⟨x, y⟩ ⟨hx, hy⟩
  have hx : RSz 400000 x := hx
  have hy : RSz 400000 y := hy
  simp [entry, sp_compare, Spec.det]
  simp -dsimp [d_compare]
  refine ⟨hx.num.mulOk hy.den (by decide), hy.num.mulOk hx.den (by decide), ?_⟩
  simp only [cmpR, Rat.lt_iff]
  split
  · exact Int.sign_eq_neg_one_of_neg (by omega)
  · split
    · exact Int.sign_eq_one_of_pos (by omega)
    · rw [show x.num * (y.den : Int) - y.num * (x.den : Int) = 0 by omega]; rfl
theorem k_floor_of : sp_floor_of.Ok 1 d_floor_of := by
  intro (x : Rat) (h : RSz 9000 x)
  simp [entry, sp_floor_of, Spec.det]
  simp -dsimp [d_floor_of]
  refine ⟨h.den.divOk (by decide) (den_ne x), ?_⟩
  rw [Int.fdiv_eq_ediv_of_nonneg _ (by omega), Rat.floor_def]
theorem k_ceiling_of : sp_ceiling_of.Ok 1 d_ceiling_of := by
  intro (x : Rat) (h : RSz 9000 x)
  simp [entry, sp_ceiling_of, Spec.det]
  simp -dsimp [d_ceiling_of]
  refine ⟨h.den.divOk (by decide) (den_ne x), ?_⟩
  rw [Int.fdiv_eq_ediv_of_nonneg _ (by omega), Rat.ceil_eq_neg_floor_neg, Rat.floor_def]
  rfl
end Dn

set_option Elab.async false
set_option linter.all false
set_option maxRecDepth 100000
set_option maxHeartbeats 4000000
set_option exponentiation.threshold 1000000
/-! the laws' own helpers: specs -/
namespace Dn
open PySem PySem.Spec PyProof.Rows L2
def intsD (ns : List Int) : D := .frz (ns.map D.int)
theorem intsD_inj {a b : List Int} (h : intsD a = intsD b) : a = b := by
  unfold intsD at h
  rw [D.frz.injEq] at h
  exact (List.map_inj_right (fun x y e => by simpa using e)).mp h
def sp__law_cell : Spec := ⟨List Int × Int, fun x => [intsD x.1, .int x.2], fun x => x.1.length ≤ 63 ∧ 0 ≤ x.2 ∧ x.2 ≤ 2000, fun _ r => ∃ c : Int, r = .sh (.int c)⟩
def sp__law_take : SpecS := .det (Int × Int) (fun x => [.int x.1]) (fun x => [.int x.2]) (fun x => 0 < x.2 ∧ Sz 9000 x.2) (fun x => .sh (.int (x.1 % x.2))) (fun x => [.int (x.1 / x.2)])
def sp__law_big : Spec := ⟨List Int × Int × Int, fun x => [intsD x.1, .int x.2.1, .int x.2.2], fun x => x.1.length ≤ 63 ∧ 0 ≤ x.2.1 ∧ x.2.1 ≤ 1000 ∧ 0 ≤ x.2.2 ∧ x.2.2 ≤ 1000, fun _ r => ∃ c : Int, r = .fr [.int c]⟩
def sp__law_divisor : Spec := .det (Int × Int) (fun x => [.int x.1, .int x.2]) (fun x => Sz 9000 x.2) fun x => .sh (.int (Int.gcd x.1 x.2))
def sp__law_ratio : Spec := .det (Int × Int) (fun x => [.int x.1, .int x.2]) (fun x => x.2 ≠ 0 ∧ Sz 9000 x.2) fun x => .sh (frD (Rat.divInt x.1 x.2))
def sp__law_is_ratio : Spec := .det Rat (fun x => [frD x]) (fun x => x.den < 2 ^ 9000) fun _ => .sh (.bl true)
section
variable {Q : Rv → Prop} {f : Fx Q} {QS : Rv → List D → Prop} {fs : Fx QS}
@[simp ↓] theorem c_law_take {n m : Int} : sp__law_take.Run [.int n] [.int m] QS fs = ((0 < m ∧ Sz 9000 m) ∧ QS (.sh (.int (n % m))) [.int (n / m)]) :=
  SpecS.det_run (fun x y h h' => by
    obtain ⟨a, b⟩ := x
    obtain ⟨c, d⟩ := y
    simp only [List.cons.injEq, D.int.injEq, and_true] at h h'
    rw [h, h']) (n, m)
@[simp ↓] theorem c_law_divisor {a b : Int} : sp__law_divisor.Run [.int a, .int b] Q f = (Sz 9000 b ∧ Q (.sh (.int (Int.gcd a b)))) := Spec.det_run (fun _ _ => inj_ii) (a, b)
@[simp ↓] theorem c_law_ratio {a b : Int} : sp__law_ratio.Run [.int a, .int b] Q f = ((b ≠ 0 ∧ Sz 9000 b) ∧ Q (.sh (frD (Rat.divInt a b)))) := Spec.det_run (fun _ _ => inj_ii) (a, b)
@[simp ↓] theorem c_law_is_ratio {a : Rat} : sp__law_is_ratio.Run [frD a] Q f = (a.den < 2 ^ 9000 ∧ Q (.sh (.bl true))) := Spec.det_run (A := Rat) (args := fun x => [frD x]) (fun x y h => by simpa using h) a
theorem c_law_cell {ns : List Int} {k : Int} (h : ns.length ≤ 63 ∧ 0 ≤ k ∧ k ≤ 2000) (q : ∀ c : Int, Q (.sh (.int c))) : sp__law_cell.Run [intsD ns, .int k] Q f :=
  Spec.go sp__law_cell (ns, k) rfl h fun r hr => by obtain ⟨c, rfl⟩ := hr; exact q c
theorem c_law_big {ns : List Int} {k m : Int} (h : ns.length ≤ 63 ∧ 0 ≤ k ∧ k ≤ 1000 ∧ 0 ≤ m ∧ m ≤ 1000) (q : ∀ c : Int, Q (.fr [.int c])) : sp__law_big.Run [intsD ns, .int k, .int m] Q f :=
  Spec.go sp__law_big (ns, k, m) rfl h fun r hr => by obtain ⟨c, rfl⟩ := hr; exact q c
end
end Dn

set_option Elab.async false
set_option linter.all false
set_option maxRecDepth 100000
set_option maxHeartbeats 4000000
set_option exponentiation.threshold 100000
/-! the laws' own helpers keep their promises -/
namespace Dn
open PySem PySem.Spec PyProof.Rows L2
def d__law_cell : DS :=
  (sSeq (sIf (tAnd (tB (eOp ltR (eVar 1) (eOp1 lenR (eVar 0)))) (tB (eOp geR (eOp ixR (eVar 0) (eVar 1)) (eOp powR (eC (.int 10)) (eC (.int 9)))))) (sRet (eOp ixR (eVar 0) (eVar 1))) sNext)
  (sSeq (sSet 2 (eOp addR (eOp mulR (eC (.int 7)) (eVar 1)) (eC (.int 1))))
  (sSeq (sIf (tB (eOp gtR (eOp1 lenR (eVar 0)) (eC (.int 0)))) (sSet 2 (eOp addR (eVar 2) (eOp mulR (eC (.int 31)) (eOp ixR (eVar 0) (eOp modR (eOp1 intR (eVar 1)) (eOp1 lenR (eVar 0))))))) sNext)
  (sSeq (sSet 2 (eOp modR (eOp1 intR (eOp addR (eOp mulR (eVar 2) (eC (.int 48271))) (eOp mulR (eC (.int 69621)) (eVar 1)))) (eC (.int 2147483647))))
  (sRet (eOp modR (eOp1 intR (eOp addR (eOp mulR (eVar 2) (eC (.int 69621))) (eOp mulR (eC (.int 48271)) (eOp fdivR (eVar 2) (eC (.int 1000)))))) (eC (.int 2147483629))))))))

def d__law_take : DS :=
  (sSeq (sSet 2 (eOp modR (eOp1 intR (eOp ixR (eVar 0) (eC (.int 0)))) (eVar 1)))
  (sSeq (sStore 0 (eOp1 intR (eOp fdivR (eOp ixR (eVar 0) (eC (.int 0))) (eVar 1))) (eC (.int 0)))
  (sRet (eVar 2))))

def d__law_big : DS :=
  (sSeq (sSet 3 (eC (.int 0)))
  (sSeq (sFor (iRange1 (aCons (eVar 2) aNil)) (gN 4) (sSet 3 (eOp addR (eOp mulR (eVar 3) (eC (.int 2147483648))) (eCall sp__law_cell (aCons (eVar 0) (aCons (eOp addR (eVar 1) (eVar 4)) aNil))))))
  (sRet (eLst (aCons (eVar 3) aNil)))))

def d__law_divisor : DS :=
  (sSeq (sSet 0 (eOp1 absR (eVar 0)))
  (sSeq (sSet 1 (eOp1 absR (eVar 1)))
  (sSeq (sFor (iRange1 (aCons (eC (.int 20000)) aNil)) (gN 2) (sSeq (sIf (tB (eOp eqR (eVar 1) (eC (.int 0)))) sBrk sNext)
  (sPar 0 1 (aCons (eVar 1) (aCons (eOp modR (eOp1 intR (eVar 0)) (eVar 1)) aNil)))))
  (sRet (eVar 0)))))

def d__law_ratio : DS :=
  (sSeq (sSet 2 (eCall sp__law_divisor (aCons (eVar 0) (aCons (eVar 1) aNil))))
  (sSeq (sIf (tB (eOp ltR (eVar 1) (eC (.int 0)))) (sSet 2 (eOp1 negR (eVar 2))) sNext)
  (sRet (eTup (aCons (eOp1 intR (eOp fdivR (eVar 0) (eVar 2))) (aCons (eOp1 intR (eOp fdivR (eVar 1) (eVar 2))) aNil))))))

def d__law_is_ratio : DS :=
  (sSeq (sIf (tOr (tNot (tTru (eOp1 (isiR .tuple) (eVar 0)))) (tOr (tB (eOp neR (eOp1 lenR (eVar 0)) (eC (.int 2)))) (tB (eOp inR (eC (.bl false)) (eLc (iSeq (eVar 0)) (CT.one 1) tYesD (eAnd (eOp1 (isiR .int) (eVar 1)) (eNot (eOp1 (isiR .bool) (eVar 1)))) [1]))))) (sRet (eC (.bl false))) sNext)
  (sRet (eAnd (eOp gtR (eOp ixR (eVar 0) (eC (.int 1))) (eC (.int 0))) (eOp eqR (eCall sp__law_divisor (aCons (eOp ixR (eVar 0) (eC (.int 0))) (aCons (eOp ixR (eVar 0) (eC (.int 1))) aNil))) (eC (.int 1))))))

@[simp] theorem len_ints {ns : List Int} : lenR (intsD ns) = (True, .sh (.int ns.length)) := by simp [intsD]
theorem ix_ints {ns : List Int} {k : Int} (h0 : 0 ≤ k) (h : k < ns.length) : ixR (intsD ns) (.int k) = (True, .sh (.int (ns[k.toNat]'(by omega)))) := by
  have : k.toNat < ns.length := by omega
  simp [intsD, atI_nn _ h0, this]
theorem divSmall {i j : Int} (h0 : j ≠ 0) (h : j.natAbs < 2 ^ 64) : DivOk i j := Sz.divOk (n := 9000) (Sz.up (n := 64) h (by decide)) (by decide) h0
theorem k__law_cell : sp__law_cell.Ok 3 d__law_cell := by
  rintro ⟨ns, k⟩ ⟨h1, h2, h3⟩
  have h1 : ns.length ≤ 63 := h1
  have h2 : 0 ≤ k := h2
  have h3 : k ≤ 2000 := h3
  have m1 : IntMulOk 7 k := mulOkL (by decide)
  have m2 : ∀ x, IntMulOk 31 x := fun x => mulOkL (by decide)
  have m3 : ∀ x, IntMulOk x 48271 := fun x => mulOkR (by decide)
  have m4 : ∀ x, IntMulOk 69621 x := fun x => mulOkL (by decide)
  have m5 : ∀ x, IntMulOk x 69621 := fun x => mulOkR (by decide)
  have m6 : ∀ x, IntMulOk 48271 x := fun x => mulOkL (by decide)
  have d1 : ∀ x, DivOk x 1000 := fun x => divSmall (by decide) (by decide)
  simp [entry, sp__law_cell]
  have tail : 0 < ns.length → ∃ c : Int, ixR (intsD ns) (.int (k.fmod ns.length)) = (True, .sh (.int c)) := fun h => by
    have a : 0 ≤ k.fmod ns.length := Int.fmod_nonneg_of_pos _ (by omega)
    have b : k.fmod ns.length < ns.length := Int.fmod_lt_of_pos _ (by omega)
    exact ⟨_, ix_ints a b⟩
  by_cases hk : k < ns.length
  · have e := ix_ints h2 hk
    obtain ⟨c, hc⟩ := tail (by omega)
    have hl : ¬ ns.length = 0 := by omega
    by_cases hb : (1000000000 : Int) ≤ ns[k.toNat]'(by omega)
    · simp -dsimp [d__law_cell, hk, e, hb]
    · simp -dsimp [d__law_cell, hk, e, hb, hc, m1, m2, m3, m4, m5, m6, d1, show 0 < ns.length by omega, hl]
  · by_cases hz : 0 < ns.length
    · obtain ⟨c, hc⟩ := tail hz
      have hl : ¬ ns.length = 0 := by omega
      simp -dsimp [d__law_cell, hk, hz, hc, m1, m2, m3, m4, m5, m6, d1, hl]
    · simp -dsimp [d__law_cell, hk, hz, m1, m2, m3, m4, m5, m6, d1]
theorem k__law_take : sp__law_take.Ok 3 d__law_take := by
  rintro ⟨n, m⟩ ⟨h0, hs⟩
  have h0 : 0 < m := h0
  have hs : Sz 9000 m := hs
  have hd : DivOk n m := hs.divOk (by decide) (by omega)
  simp [entryS, sp__law_take, SpecS.det]
  simp -dsimp [d__law_take, hd, ixN]
  refine ⟨by omega, ?_, ?_⟩
  · exact Int.fmod_eq_emod_of_nonneg _ (by omega)
  · exact Int.fdiv_eq_ediv_of_nonneg _ (by omega)
theorem k__law_big : sp__law_big.Ok 5 d__law_big := by
  rintro ⟨ns, k, m⟩ ⟨h1, h2, h3, h5, h4⟩
  have h1 : ns.length ≤ 63 := h1
  have h2 : 0 ≤ k := h2
  have h3 : k ≤ 1000 := h3
  have h5 : 0 ≤ m := h5
  have h4 : m ≤ 1000 := h4
  obtain ⟨m, rfl⟩ := Int.eq_ofNat_of_zero_le h5
  have m1 : ∀ x, IntMulOk x 2147483648 := fun x => mulOkR (by decide)
  simp [entry, sp__law_big]
  simp -dsimp [d__law_big]
  refine for_range (n := m) (by omega) (fun QA => by simp) (fun _ e => ∃ c s, e = [.sh (intsD ns), .sh (.int k), .sh (.int m), .sh (.int c), s]) ⟨_, _, rfl⟩ ?_ ?_
  · rintro j hj e ⟨c, s, rfl⟩
    simp -dsimp [m1]
    refine c_law_cell ⟨h1, by omega, by omega⟩ fun c => ?_
    simp -dsimp
  · rintro e ⟨c, s, rfl⟩
    simp -dsimp
theorem k__law_divisor : sp__law_divisor.Ok 3 d__law_divisor := by
  rintro ⟨a, b⟩ hb
  have hb : b.natAbs < 2 ^ 9000 := hb
  simp [entry, sp__law_divisor, Spec.det]
  simp -dsimp [d__law_divisor, abs_eq]
  obtain ⟨B, hB⟩ : ∃ B : Nat, B = 2 ^ 18001 := ⟨_, rfl⟩
  refine for_range (n := 20000) (by decide) (fun QA => by simp) (fun k e => ∃ (x y : Nat) (s : Sl), e = [.sh (.int x), .sh (.int y), s] ∧ Nat.gcd x y = Int.gcd a b ∧ ((k = 0 ∧ y < 2 ^ 9000) ∨ (y < x ∧ x * y * 2 ^ k ≤ B))) ⟨_, _, _, rfl, rfl, .inl ⟨rfl, hb⟩⟩ ?_ ?_
  · rintro j hj e ⟨x, y, s, rfl, hg, h⟩
    by_cases hy : y = 0
    · subst hy
      rw [Nat.gcd_zero_right] at hg
      simp -dsimp [hg]
    · simp -dsimp [hy]
      have hxy : (x : Int).fmod (y : Int) = ((x % y : Nat) : Int) := by rw [Int.fmod_eq_emod_of_nonneg _ (by omega)]; rfl
      have hm : x % y < y := Nat.mod_lt _ (by omega)
      refine ⟨y, x % y, ⟨rfl, hxy⟩, ?_, hm, ?_⟩
      · rw [← hg, Nat.gcd_comm x y, Nat.gcd_rec y x, Nat.gcd_comm]
      · rcases h with ⟨rfl, h⟩ | ⟨h1, h2⟩
        · subst hB
          have e1 : y * (x % y) ≤ 2 ^ 9000 * 2 ^ 9000 := Nat.mul_le_mul (by omega) (by omega)
          rw [← Nat.pow_add] at e1
          rw [show (18001 : Nat) = 9000 + 9000 + 1 from rfl, Nat.pow_succ (n := 2) (m := 9000 + 9000), Nat.zero_add, Nat.pow_one]
          exact Nat.mul_le_mul_right _ e1
        · refine Nat.le_trans ?_ h2
          have e2 : 2 * (x % y) ≤ x := by
            have := Nat.mod_add_div x y
            have : y * 1 ≤ y * (x / y) := Nat.mul_le_mul_left _ (Nat.div_pos (by omega) (by omega))
            omega
          calc y * (x % y) * 2 ^ (j + 1) = 2 * (x % y) * (y * 2 ^ j) := by rw [Nat.pow_succ]; ac_rfl
            _ ≤ x * (y * 2 ^ j) := Nat.mul_le_mul_right _ e2
            _ = x * y * 2 ^ j := by ac_rfl
  · rintro e ⟨x, y, s, rfl, hg, h⟩
    have hy : y = 0 := by
      rcases h with ⟨h, _⟩ | ⟨h1, h2⟩
      · cases h
      · refine Nat.eq_zero_of_not_pos fun hp => ?_
        have h3 : 1 * 2 ^ 20000 ≤ x * y * 2 ^ 20000 := Nat.mul_le_mul_right _ (Nat.mul_pos (by omega) hp)
        rw [hB] at h2
        have h4 : 2 ^ 18001 < 2 ^ 20000 := Nat.pow_lt_pow_right (by decide) (by decide)
        omega
    subst hy
    rw [Nat.gcd_zero_right] at hg
    simp -dsimp [hg]
theorem k__law_ratio : sp__law_ratio.Ok 3 d__law_ratio := by
  rintro ⟨p, q⟩ ⟨h0, hs⟩
  have h0 : q ≠ 0 := h0
  have hs : Sz 9000 q := hs
  simp [entry, sp__law_ratio, Spec.det]
  simp -dsimp [d__law_ratio, hs]
  have hg : Int.gcd p q ≠ 0 := fun e => h0 (Int.gcd_eq_zero_iff.mp e).2
  have hz : (Int.gcd p q : Int).natAbs ≤ q.natAbs := by
    have := Nat.le_of_dvd (by omega) (Int.gcd_dvd_natAbs_right p q)
    omega
  have dp : (Int.gcd p q : Int) ∣ p := Int.gcd_dvd_left ..
  have dq : (Int.gcd p q : Int) ∣ q := Int.gcd_dvd_right ..
  by_cases hq : q < 0
  · have hd : ∀ i : Int, DivOk i (-(Int.gcd p q : Int)) := fun i => Sz.divOk (n := 9000) (Sz.le hs (by omega)) (by decide) (by omega)
    simp -dsimp [hq, hd]
    unfold frD
    rw [Rat.num_divInt, Rat.den_divInt, if_neg h0, Int.sign_eq_neg_one_of_neg hq, Int.gcd_comm q p]
    simp only [D.tup.injEq, List.cons.injEq, D.int.injEq, and_true]
    refine ⟨?_, ?_⟩
    · rw [Int.fdiv_eq_ediv_of_dvd ((Int.neg_dvd).mpr dp), Int.ediv_neg, Int.neg_mul, Int.one_mul, Int.neg_ediv_of_dvd dp]
    · rw [Int.fdiv_eq_ediv_of_dvd ((Int.neg_dvd).mpr dq), Int.ediv_neg, ← Int.neg_ediv_of_dvd dq, Int.natCast_ediv]
      congr 1
      omega
  · have hd : ∀ i : Int, DivOk i (Int.gcd p q : Int) := fun i => Sz.divOk (n := 9000) (Sz.le hs (by omega)) (by decide) (by omega)
    simp -dsimp [hq, hd]
    unfold frD
    rw [Rat.num_divInt, Rat.den_divInt, if_neg h0, Int.sign_eq_one_of_pos (by omega), Int.gcd_comm q p]
    simp only [D.tup.injEq, List.cons.injEq, D.int.injEq, and_true]
    refine ⟨?_, ?_⟩
    · rw [Int.fdiv_eq_ediv_of_dvd dp, Int.one_mul]
    · rw [Int.fdiv_eq_ediv_of_dvd dq, Int.natCast_ediv]
      congr 1
      omega
@[simp] theorem isi_fr {T : Ty5} {x : Rat} : isiR T (frD x) = (True, .sh (.bl (match T with | .tuple => true | _ => false))) := rfl
@[simp] theorem truD_fr {x : Rat} : truD (frD x) = (True, true) := rfl
@[simp] theorem iseq_fr {x : Rat} {i : Nat} {env : En} {Q : List D → En → Prop} (h : env[i]? = some (.sh (frD x))) : (iSeq (eVar i)).run env Q = Q [.int x.num, .int x.den] env := by
  rw [r_iSeq, r_var, h]
  rfl
theorem k__law_is_ratio : sp__law_is_ratio.Ok 2 d__law_is_ratio := by
  intro (x : Rat) (h : x.den < 2 ^ 9000)
  have h2 : Sz 9000 (x.den : Int) := h
  simp [entry, sp__law_is_ratio, Spec.det]
  have hg : Int.gcd x.num x.den = 1 := x.reduced
  simp -dsimp [d__law_is_ratio, isi_fr, holdR, look, truD_fr]
  refine lc_map [.int x.num, .int x.den] [.bl true, .bl true] rfl (by decide) (fun Q => iseq_fr rfl) (by simp) (fun k hk => ?_) ?_
  · match k, hk with
    | 0, _ => simp -dsimp
    | 1, _ => simp -dsimp
  · have e : inD (.bl false) [.bl true, .bl true] = false := by decide +kernel
    have hd : 0 < x.den := by have := x.den_nz; omega
    simp -dsimp [D.flat, e, h2, hg, hd]
end Dn

set_option Elab.async false
set_option linter.all false
set_option maxRecDepth 100000
set_option maxHeartbeats 4000000
set_option exponentiation.threshold 100000
/-! polynomials as lists of whole numbers: plain facts -/
namespace Dn
open PySem PySem.Spec PyProof.Rows L2
/-! finite sums -/
def Sg (n : Nat) (f : Nat → Int) : Int := match n with
  | 0 => 0
  | n + 1 => Sg n f + f n
@[simp] theorem Sg_0 {f : Nat → Int} : Sg 0 f = 0 := rfl
theorem Sg_s {n : Nat} {f : Nat → Int} : Sg (n + 1) f = Sg n f + f n := rfl
theorem Sg_congr {n : Nat} {f g : Nat → Int} (h : ∀ k, k < n → f k = g k) : Sg n f = Sg n g := by
  induction n with
  | zero => rfl
  | succ n ih => rw [Sg_s, Sg_s, ih fun k hk => h k (by omega), h n (by omega)]
theorem Sg_add {n : Nat} {f g : Nat → Int} : Sg n (fun k => f k + g k) = Sg n f + Sg n g := by
  induction n with
  | zero => rfl
  | succ n ih => rw [Sg_s, Sg_s, Sg_s, ih]; omega
theorem Sg_mul {n : Nat} {f : Nat → Int} {c : Int} : Sg n (fun k => c * f k) = c * Sg n f := by
  induction n with
  | zero => simp
  | succ n ih => rw [Sg_s, Sg_s, ih, Int.mul_add]
theorem Sg_zero {n : Nat} {f : Nat → Int} (h : ∀ k, k < n → f k = 0) : Sg n f = 0 := by
  induction n with
  | zero => rfl
  | succ n ih => rw [Sg_s, ih fun k hk => h k (by omega), h n (by omega)]; rfl
theorem Sg_shift {n : Nat} {f : Nat → Int} : Sg (n + 1) f = f 0 + Sg n fun k => f (k + 1) := by
  induction n with
  | zero => simp [Sg_s]
  | succ n ih => rw [Sg_s, ih, Sg_s]; omega
theorem Sg_more {n m : Nat} {f : Nat → Int} (h : n ≤ m) (h0 : ∀ k, n ≤ k → k < m → f k = 0) : Sg m f = Sg n f := by
  induction m with
  | zero => rw [show n = 0 by omega]
  | succ m ih =>
    by_cases e : n = m + 1
    · rw [e]
    · rw [Sg_s, ih (by omega) fun k a b => h0 k a (by omega), h0 m (by omega) (by omega), Int.add_zero]
theorem Sg_rev {n : Nat} {f : Nat → Int} : Sg n f = Sg n fun k => f (n - 1 - k) := by
  induction n generalizing f with
  | zero => rfl
  | succ n ih =>
    rw [Sg_s, Sg_shift, show n + 1 - 1 - 0 = n by omega, Int.add_comm, ih]
    congr 1
    exact Sg_congr fun k hk => by congr 1; omega
/-! coefficients, trimming -/
@[simp] theorem coef_nil {k : Nat} : coef [] k = 0 := coef_ge (Nat.zero_le _)
@[simp] theorem coef_c0 {a : Int} {p : List Int} : coef (a :: p) 0 = a := rfl
@[simp] theorem coef_cs {a : Int} {p : List Int} {k : Nat} : coef (a :: p) (k + 1) = coef p k := rfl
theorem coef_append {p : List Int} {a : Int} {k : Nat} : coef (p ++ [a]) k = if k = p.length then a else coef p k := by
  unfold coef
  rw [List.getD_eq_getElem?_getD, List.getD_eq_getElem?_getD]
  by_cases h : k < p.length
  · rw [List.getElem?_append_left h, if_neg (by omega)]
  · rw [List.getElem?_append_right (by omega)]
    by_cases e : k = p.length
    · subst e; simp
    · rw [if_neg e, List.getElem?_eq_none (by simp; omega), List.getElem?_eq_none (by omega)]
/-- no 0 at the end -/
def Tr (p : List Int) : Prop := p = [] ∨ p.getLast? ≠ some 0
def trim : List Int → List Int
  | [] => []
  | a :: t => if trim t = [] ∧ a = 0 then [] else a :: trim t
@[simp] theorem trim_nil : trim [] = [] := rfl
theorem trim_cons {a : Int} {t : List Int} : trim (a :: t) = if trim t = [] ∧ a = 0 then [] else a :: trim t := rfl
@[simp] theorem coef_trim {p : List Int} {k : Nat} : coef (trim p) k = coef p k := by
  induction p generalizing k with
  | nil => rfl
  | cons a t ih =>
    rw [trim_cons]
    split
    · rename_i h
      cases k with
      | zero => simp [h.2]
      | succ k => rw [coef_cs, ← ih, h.1]; simp
    · cases k with
      | zero => rfl
      | succ k => rw [coef_cs, coef_cs, ih]
theorem trim_nil_iff {p : List Int} : trim p = [] ↔ ∀ k, coef p k = 0 := by
  induction p with
  | nil => simp
  | cons a t ih =>
    rw [trim_cons]
    constructor
    · intro h k
      split at h
      · rename_i g
        cases k with
        | zero => exact g.2
        | succ k => exact ih.mp g.1 k
      · cases h
    · intro h
      rw [if_pos ⟨ih.mpr fun k => h (k + 1), h 0⟩]
theorem trim_ext {p q : List Int} (h : ∀ k, coef p k = coef q k) : trim p = trim q := by
  induction p generalizing q with
  | nil =>
    rw [trim_nil]
    exact (trim_nil_iff.mpr fun k => by rw [← h k]; simp).symm
  | cons a t ih =>
    cases q with
    | nil =>
      rw [trim_nil]
      exact trim_nil_iff.mpr fun k => by rw [h k]; simp
    | cons b s =>
      have e : a = b := h 0
      rw [trim_cons, trim_cons, ih fun k => h (k + 1), e]
theorem trim_tr (p : List Int) : Tr (trim p) := by
  induction p with
  | nil => exact .inl rfl
  | cons a t ih =>
    rw [trim_cons]
    split
    · exact .inl rfl
    · rename_i h
      rcases ih with e | e
      · rw [e]
        refine .inr ?_
        simp
        intro e'
        exact h ⟨e, e'⟩
      · refine .inr ?_
        cases hq : trim t with
        | nil => rw [hq] at h; simp; intro e'; exact h ⟨rfl, e'⟩
        | cons b s =>
          rw [hq] at e
          rw [List.getLast?_cons_cons]
          exact e
theorem tr_trim {p : List Int} (h : Tr p) : trim p = p := by
  induction p with
  | nil => rfl
  | cons a t ih =>
    rw [trim_cons]
    cases t with
    | nil =>
      rcases h with h | h
      · cases h
      · rw [if_neg (fun g => h (by rw [g.2]; rfl))]; rfl
    | cons b s =>
      have h' : Tr (b :: s) := by
        rcases h with h | h
        · cases h
        · exact .inr (by rwa [List.getLast?_cons_cons] at h)
      rw [ih h', if_neg (fun g => by cases g.1)]
theorem tr_ext {a b : List Int} (ha : Tr a) (hb : Tr b) (h : ∀ k, coef a k = coef b k) : a = b := by
  rw [← tr_trim ha, ← tr_trim hb, trim_ext h]
theorem trim_len (p : List Int) : (trim p).length ≤ p.length := by
  induction p with
  | nil => exact Nat.le_refl _
  | cons a t ih =>
    rw [trim_cons]
    split
    · exact Nat.zero_le _
    · simpa using ih
@[simp] theorem trim_trim {p : List Int} : trim (trim p) = trim p := tr_trim (trim_tr p)
theorem trim_dropLast {p : List Int} (h : p.getLast? = some 0) : trim p.dropLast = trim p := by
  refine trim_ext fun k => ?_
  obtain ⟨q, rfl⟩ : ∃ q, p = q ++ [0] := by
    rcases List.eq_nil_or_concat p with rfl | ⟨q, b, rfl⟩
    · cases h
    · rw [List.concat_eq_append, List.getLast?_concat] at h
      cases h
      exact ⟨q, by rw [List.concat_eq_append]⟩
  rw [List.dropLast_concat, coef_append]
  split
  · rename_i e; rw [e, coef_ge (Nat.le_refl _)]
  · rfl
theorem list_ext {p q : List Int} (hl : p.length = q.length) (h : ∀ k, k < p.length → coef p k = coef q k) : p = q := by
  refine List.ext_getElem hl fun k a b => ?_
  have := h k a
  rwa [coef_lt a, coef_lt b] at this
/-- a row by its coefficients -/
def mkL (n : Nat) (f : Nat → Int) : List Int := (List.range n).map f
@[simp] theorem mkL_len {n : Nat} {f : Nat → Int} : (mkL n f).length = n := by simp [mkL]
theorem coef_mkL {n : Nat} {f : Nat → Int} {k : Nat} : coef (mkL n f) k = if k < n then f k else 0 := by
  by_cases h : k < n
  · rw [if_pos h, coef_lt (by simpa using h)]
    simp [mkL]
  · rw [if_neg h, coef_ge (by simpa using h)]
theorem eq_mkL {xs : List Int} {n : Nat} {f : Nat → Int} (hl : xs.length = n) (h : ∀ k, k < n → coef xs k = f k) : xs = mkL n f :=
  list_ext (by simp [hl]) fun k hk => by rw [coef_mkL, if_pos (by omega), h k (by omega)]
/-! sum, product, slope -/
def sumL (p q : List Int) (c : Int) : List Int := trim (mkL (max p.length q.length) fun k => coef p k + c * coef q k)
@[simp] theorem coef_sumL {p q : List Int} {c : Int} {k : Nat} : coef (sumL p q c) k = coef p k + c * coef q k := by
  unfold sumL
  rw [coef_trim, coef_mkL]
  split
  · rfl
  · rw [coef_ge (by omega), coef_ge (by omega)]; simp
/-- the product's coefficients, out of the first i of p -/
def cs (p q : List Int) (i k : Nat) : Int := Sg i fun a => if a ≤ k then coef p a * coef q (k - a) else 0
def conv (p q : List Int) (k : Nat) : Int := cs p q (k + 1) k
theorem cs_len {p q : List Int} {k i : Nat} (h : p.length ≤ i) : cs p q i k = conv p q k := by
  have a : cs p q (max i (k + 1)) k = cs p q i k := Sg_more (Nat.le_max_left ..) fun j h1 h2 => by
    split
    · rw [coef_ge (p := p) (by omega), Int.zero_mul]
    · rfl
  have b : cs p q (max i (k + 1)) k = conv p q k := Sg_more (Nat.le_max_right ..) fun j h1 h2 => by rw [if_neg (by omega)]
  rw [← a, b]
def mulL (p q : List Int) : List Int := trim (mkL (p.length + q.length - 1) (conv p q))
theorem conv_def {p q : List Int} {k : Nat} : conv p q k = Sg (k + 1) fun a => coef p a * coef q (k - a) := Sg_congr fun a h => by rw [if_pos (by omega)]
theorem conv_ge {p q : List Int} {k : Nat} (h : p.length + q.length - 1 ≤ k) : conv p q k = 0 := by
  rw [conv_def]
  refine Sg_zero fun a ha => ?_
  by_cases e : a < p.length
  · rw [coef_ge (p := q) (by omega), Int.mul_zero]
  · rw [coef_ge (p := p) (by omega), Int.zero_mul]
@[simp] theorem coef_mulL {p q : List Int} {k : Nat} : coef (mulL p q) k = conv p q k := by
  unfold mulL
  rw [coef_trim, coef_mkL]
  split
  · rfl
  · rw [conv_ge (by omega)]
def sclL (c : Int) (p : List Int) : List Int := trim (p.map fun x => c * x)
@[simp] theorem coef_map {f : Int → Int} (h0 : f 0 = 0) {p : List Int} {k : Nat} : coef (p.map f) k = f (coef p k) := by
  by_cases h : k < p.length
  · rw [coef_lt (by simpa using h), coef_lt h, List.getElem_map]
  · rw [coef_ge (by simpa using h), coef_ge (by omega), h0]
@[simp] theorem coef_sclL {p : List Int} {c : Int} {k : Nat} : coef (sclL c p) k = c * coef p k := by
  unfold sclL
  rw [coef_trim, coef_map (Int.mul_zero c)]
def slpL (p : List Int) : List Int := trim (mkL (p.length - 1) fun k => ((k + 1 : Nat) : Int) * coef p (k + 1))
@[simp] theorem coef_slpL {p : List Int} {k : Nat} : coef (slpL p) k = ((k + 1 : Nat) : Int) * coef p (k + 1) := by
  unfold slpL
  rw [coef_trim, coef_mkL]
  split
  · rfl
  · rw [coef_ge (by omega), Int.mul_zero]
def powL (p : List Int) : Nat → List Int
  | 0 => [1]
  | n + 1 => mulL (powL p n) p
theorem conv_congr {p q p' q' : List Int} {k : Nat} (h : ∀ j, coef p j = coef p' j) (h' : ∀ j, coef q j = coef q' j) : conv p q k = conv p' q' k := by
  rw [conv_def, conv_def]
  exact Sg_congr fun a _ => by rw [h, h']
/-- the slope of a product -/
theorem slope_mul {p q : List Int} : slpL (mulL p q) = sumL (mulL (slpL p) q) (mulL p (slpL q)) 1 := by
  refine tr_ext (trim_tr _) (trim_tr _) fun k => ?_
  show coef (slpL (mulL p q)) k = coef (sumL (mulL (slpL p) q) (mulL p (slpL q)) 1) k
  rw [coef_slpL, coef_mulL, coef_sumL, coef_mulL, coef_mulL, Int.one_mul, conv_def, conv_def, conv_def, ← Sg_mul]
  have e : Sg (k + 1 + 1) (fun a => ((k + 1 : Nat) : Int) * (coef p a * coef q (k + 1 - a))) = Sg (k + 1 + 1) (fun a => (a : Int) * coef p a * coef q (k + 1 - a)) + Sg (k + 1 + 1) (fun a => coef p a * (((k + 1 - a : Nat) : Int) * coef q (k + 1 - a))) := by
    rw [← Sg_add]
    refine Sg_congr fun a ha => ?_
    have : ((k + 1 : Nat) : Int) = (a : Int) + ((k + 1 - a : Nat) : Int) := by omega
    rw [this]
    grind
  rw [e, Sg_shift, Sg_s (n := k + 1)]
  have z1 : ((0 : Nat) : Int) * coef p 0 * coef q (k + 1 - 0) = 0 := by simp
  have z2 : coef p (k + 1) * (((k + 1 - (k + 1) : Nat) : Int) * coef q (k + 1 - (k + 1))) = 0 := by simp
  rw [z1, z2, Int.zero_add, Int.add_zero]
  congr 1
  · refine Sg_congr fun a ha => ?_
    rw [coef_slpL, show k + 1 - (a + 1) = k - a by omega]
  · refine Sg_congr fun a ha => ?_
    rw [coef_slpL, show k + 1 - a = k - a + 1 by omega]
end Dn

set_option Elab.async false
set_option linter.all false
set_option maxRecDepth 100000
set_option maxHeartbeats 4000000
set_option exponentiation.threshold 100000
/-! polynomials: rows as data, specs -/
namespace Dn
open PySem PySem.Spec PyProof.Rows L2
theorem ix_ls {ns : List Int} {k : Int} (h0 : 0 ≤ k) (h : k < ns.length) : ixR (lsD ns) (.int k) = (True, .sh (.int (coef ns k.toNat))) := by
  rw [ix_l, atI_iL h0 h]
  simp
theorem ix_lsn {ns : List Int} {k : Nat} (h : k < ns.length) : ixR (lsD ns) (.int k) = (True, .sh (.int (coef ns k))) := by
  rw [ix_ls (by omega) (by omega)]
  rfl
instance : DecidablePred Tr := fun p => inferInstanceAs (Decidable (p = [] ∨ p.getLast? ≠ some 0))
/-! specs -/
def sp_trimmed : Spec := .det (List Int) (fun x => [lsD x]) (fun _ => True) fun x => .fr (iL (trim x))
def sp__law_trim : Spec := sp_trimmed
def sp_is_poly : Spec := .det (List Int) (fun x => [lsD x]) (fun _ => True) fun x => .sh (.bl (decide (Tr x)))
def sp__law_is_poly : Spec := sp_is_poly
def Lim (p q : List Int) : Prop := p.length + q.length ≤ 1000000
def MulOk (p q : List Int) : Prop := ∀ x ∈ p, ∀ y ∈ q, IntMulOk x y
def sp_added : Spec := .det (List Int × List Int) (fun x => [lsD x.1, lsD x.2]) (fun x => Lim x.1 x.2) fun x => .fr (iL (sumL x.1 x.2 1))
def sp_taken : Spec := .det (List Int × List Int) (fun x => [lsD x.1, lsD x.2]) (fun x => Lim x.1 x.2) fun x => .fr (iL (sumL x.1 x.2 (-1)))
def sp__law_sum : Spec := .det (List Int × List Int × Int) (fun x => [lsD x.1, lsD x.2.1, .int x.2.2]) (fun x => Lim x.1 x.2.1 ∧ x.2.2.natAbs < 2 ^ 64) fun x => .fr (iL (sumL x.1 x.2.1 x.2.2))
def sp_scaled : Spec := .det (List Int × Int) (fun x => [lsD x.1, .int x.2]) (fun x => x.1.length ≤ 1000000 ∧ ∀ y ∈ x.1, IntMulOk x.2 y) fun x => .fr (iL (sclL x.2 x.1))
def sp_ptimes : Spec := .det (List Int × List Int) (fun x => [lsD x.1, lsD x.2]) (fun x => Lim x.1 x.2 ∧ MulOk x.1 x.2) fun x => .fr (iL (mulL x.1 x.2))
def sp__law_product : Spec := sp_ptimes
def sp_slope : Spec := .det (List Int) (fun x => [lsD x]) (fun x => x.length ≤ 1000000) fun x => .fr (iL (slpL x))
def sp__law_slope : Spec := sp_slope
/-- a row drawn: its length, its size -/
def Dr (n : Nat) (b : Int) (p : List Int) : Prop := p.length ≤ n ∧ (∀ x ∈ p, -b ≤ x ∧ x ≤ b) ∧ Tr p
def sp__law_poly : SpecS := ⟨Int × Nat × Nat, fun x => [.int x.1], fun x => [.int x.2.1, .int x.2.2], fun x => x.2.1 ≤ 1000 ∧ x.2.2 ≤ 10 ^ 100, fun x r ys => ∃ p c, r = .fr (iL p) ∧ ys = [.int c] ∧ Dr (x.2.1 + 1) x.2.2 p⟩
section
variable {Q : Rv → Prop} {f : Fx Q} {QS : Rv → List D → Prop} {fs : Fx QS}
theorem inj_ll {x y : List Int × List Int} (h : [lsD x.1, lsD x.2] = [lsD y.1, lsD y.2]) : x = y := by
  obtain ⟨a, b⟩ := x
  obtain ⟨c, d⟩ := y
  simp only [List.cons.injEq, D.lst.injEq, iL_eq, and_true] at h
  rw [h.1, h.2]
theorem inj_l {x y : List Int} (h : [lsD x] = [lsD y]) : x = y := by simpa using h
@[simp ↓] theorem c_trimmed {a : List Int} : sp_trimmed.Run [lsD a] Q f = Q (.fr (iL (trim a))) := (Spec.det_run (A := List Int) (args := fun x => [lsD x]) (fun x y h => inj_l h) a).trans (true_and _)
@[simp ↓] theorem c__law_trim {a : List Int} : sp__law_trim.Run [lsD a] Q f = Q (.fr (iL (trim a))) := c_trimmed
@[simp ↓] theorem c_is_poly {a : List Int} : sp_is_poly.Run [lsD a] Q f = Q (.sh (.bl (decide (Tr a)))) := (Spec.det_run (A := List Int) (args := fun x => [lsD x]) (fun x y h => inj_l h) a).trans (true_and _)
@[simp ↓] theorem c__law_is_poly {a : List Int} : sp__law_is_poly.Run [lsD a] Q f = Q (.sh (.bl (decide (Tr a)))) := c_is_poly
@[simp ↓] theorem c_added {a b : List Int} : sp_added.Run [lsD a, lsD b] Q f = (Lim a b ∧ Q (.fr (iL (sumL a b 1)))) := Spec.det_run (fun _ _ => inj_ll) (a, b)
@[simp ↓] theorem c_taken {a b : List Int} : sp_taken.Run [lsD a, lsD b] Q f = (Lim a b ∧ Q (.fr (iL (sumL a b (-1))))) := Spec.det_run (fun _ _ => inj_ll) (a, b)
@[simp ↓] theorem c__law_sum {a b : List Int} {c : Int} : sp__law_sum.Run [lsD a, lsD b, .int c] Q f = ((Lim a b ∧ c.natAbs < 2 ^ 64) ∧ Q (.fr (iL (sumL a b c)))) := Spec.det_run (fun x y h => by
  obtain ⟨a, b, c⟩ := x
  obtain ⟨a', b', c'⟩ := y
  simp only [List.cons.injEq, D.lst.injEq, iL_eq, D.int.injEq, and_true] at h
  rw [h.1, h.2.1, h.2.2]) (a, b, c)
@[simp ↓] theorem c_scaled {a : List Int} {c : Int} : sp_scaled.Run [lsD a, .int c] Q f = ((a.length ≤ 1000000 ∧ ∀ y ∈ a, IntMulOk c y) ∧ Q (.fr (iL (sclL c a)))) := Spec.det_run (fun x y h => by
  obtain ⟨a, c⟩ := x
  obtain ⟨a', c'⟩ := y
  simp only [List.cons.injEq, D.lst.injEq, iL_eq, D.int.injEq, and_true] at h
  rw [h.1, h.2]) (a, c)
@[simp ↓] theorem c_ptimes {a b : List Int} : sp_ptimes.Run [lsD a, lsD b] Q f = ((Lim a b ∧ MulOk a b) ∧ Q (.fr (iL (mulL a b)))) := Spec.det_run (fun _ _ => inj_ll) (a, b)
@[simp ↓] theorem c__law_product {a b : List Int} : sp__law_product.Run [lsD a, lsD b] Q f = ((Lim a b ∧ MulOk a b) ∧ Q (.fr (iL (mulL a b)))) := c_ptimes
@[simp ↓] theorem c_slope {a : List Int} : sp_slope.Run [lsD a] Q f = (a.length ≤ 1000000 ∧ Q (.fr (iL (slpL a)))) := Spec.det_run (A := List Int) (args := fun x => [lsD x]) (fun x y h => inj_l h) a
@[simp ↓] theorem c__law_slope {a : List Int} : sp__law_slope.Run [lsD a] Q f = (a.length ≤ 1000000 ∧ Q (.fr (iL (slpL a)))) := c_slope
theorem c__law_poly {c : Int} {n b : Nat} (h : n ≤ 1000 ∧ b ≤ 10 ^ 100) (q : ∀ p c', Dr (n + 1) b p → QS (.fr (iL p)) [.int c']) : sp__law_poly.Run [.int c] [.int n, .int b] QS fs :=
  SpecS.go sp__law_poly (c, n, b) rfl rfl h fun r ys hr => by
    obtain ⟨p, c', rfl, rfl, h⟩ := hr
    exact q p c' h
end
end Dn

set_option Elab.async false
set_option linter.all false
set_option maxRecDepth 100000
set_option maxHeartbeats 4000000
set_option exponentiation.threshold 100000
/-! polynomials: the defs keep their promises -/
namespace Dn
open PySem PySem.Spec PyProof.Rows L2
def d_trimmed : DS :=
  (sSeq (sOwn 1 (eOp1 listR (eVar 0)))
  (sSeq (sWhile (tAnd (tB (eOp neR (eVar 1) (eLst aNil))) (tB (eOp eqR (eOp ixR (eVar 1) (eOp1 negR (eC (.int 1)))) (eC (.int 0))))) (sExpr (ePop 1)))
  (sRet (eVar 1))))

def d_is_poly : DS :=
  (sRet (eOr (eOp eqR (eVar 0) (eLst aNil)) (eOp neR (eOp ixR (eVar 0) (eOp1 negR (eC (.int 1)))) (eC (.int 0)))))

def d_added : DS :=
  (sSeq (sOwn 2 (eOp mulR (eLst (aCons (eC (.int 0)) aNil)) (eOp max2R (eOp1 lenR (eVar 0)) (eOp1 lenR (eVar 1)))))
  (sSeq (sFor (iListArg enumD (aCons (eVar 0) aNil)) (gTupD 2 (gConsD (gN 3) (gConsD (gN 4) gNilD))) (sAugS 2 iaddR (eVar 3) (eVar 4)))
  (sSeq (sFor (iListArg enumD (aCons (eVar 1) aNil)) (gTupD 2 (gConsD (gN 3) (gConsD (gN 4) gNilD))) (sAugS 2 iaddR (eVar 3) (eVar 4)))
  (sRet (eCall sp_trimmed (aCons (eVar 2) aNil))))))

def d_scaled : DS :=
  (sRet (eCall sp_trimmed (aCons (eLc (iSeq (eVar 0)) (CT.one 2) tYesD (eOp mulR (eVar 1) (eVar 2)) [2]) aNil)))

def d_taken : DS :=
  (sRet (eCall sp_added (aCons (eVar 0) (aCons (eCall sp_scaled (aCons (eVar 1) (aCons (eOp1 negR (eC (.int 1))) aNil))) aNil))))

def d_ptimes : DS :=
  (sSeq (sOwn 2 (eOp mulR (eLst (aCons (eC (.int 0)) aNil)) (eOp max2R (eC (.int 0)) (eOp subR (eOp addR (eOp1 lenR (eVar 0)) (eOp1 lenR (eVar 1))) (eC (.int 1))))))
  (sSeq (sFor (iListArg enumD (aCons (eVar 0) aNil)) (gTupD 2 (gConsD (gN 3) (gConsD (gN 4) gNilD))) (sFor (iListArg enumD (aCons (eVar 1) aNil)) (gTupD 2 (gConsD (gN 5) (gConsD (gN 6) gNilD))) (sAugS 2 iaddR (eOp addR (eVar 3) (eVar 5)) (eOp mulR (eVar 4) (eVar 6)))))
  (sRet (eCall sp_trimmed (aCons (eVar 2) aNil)))))

def d_slope : DS :=
  (sRet (eCall sp_trimmed (aCons (eSl (eLc (iListArg enumD (aCons (eVar 0) aNil)) (CT.two 1 2) tYesD (eOp mulR (eVar 1) (eVar 2)) [1, 2]) (oSome (eC (.int 1))) oNone) aNil)))

def d__law_trim : DS :=
  (sSeq (sOwn 0 (eOp1 listR (eVar 0)))
  (sSeq (sWhile (tAnd (tB (eOp neR (eVar 0) (eLst aNil))) (tB (eOp eqR (eOp ixR (eVar 0) (eOp1 negR (eC (.int 1)))) (eC (.int 0))))) (sExpr (ePop 0)))
  (sRet (eVar 0))))

def d__law_is_poly : DS :=
  (sSeq (sIf (tOr (tNot (tTru (eOp1 (isiR .list) (eVar 0)))) (tB (eOp neR (eLc (iSeq (eVar 0)) (CT.one 1) (tOr (tNot (tTru (eOp1 (isiR .int) (eVar 1)))) (tTru (eOp1 (isiR .bool) (eVar 1)))) (eVar 1) [1]) (eLst aNil)))) (sRet (eC (.bl false))) sNext)
  (sRet (eOr (eOp eqR (eVar 0) (eLst aNil)) (eOp neR (eOp ixR (eVar 0) (eOp1 negR (eC (.int 1)))) (eC (.int 0))))))

def d__law_poly : DS :=
  (sSeq (sSet 3 (eCallS sp__law_take 0 (aCons (eOp addR (eVar 1) (eC (.int 2))) aNil)))
  (sSeq (sSet 4 (eLc (iRange1 (aCons (eVar 3) aNil)) (CT.one 5) tYesD (eOp subR (eCallS sp__law_take 0 (aCons (eOp addR (eOp mulR (eC (.int 2)) (eVar 2)) (eC (.int 1))) aNil)) (eVar 2)) [5]))
  (sRet (eCall sp__law_trim (aCons (eVar 4) aNil)))))

def d__law_sum : DS :=
  (sSeq (sOwn 3 (eOp mulR (eLst (aCons (eC (.int 0)) aNil)) (eOp max2R (eOp1 lenR (eVar 0)) (eOp1 lenR (eVar 1)))))
  (sSeq (sFor (iRange1 (aCons (eOp1 lenR (eVar 0)) aNil)) (gN 4) (sStore 3 (eOp addR (eOp ixR (eVar 3) (eVar 4)) (eOp ixR (eVar 0) (eVar 4))) (eVar 4)))
  (sSeq (sFor (iRange1 (aCons (eOp1 lenR (eVar 1)) aNil)) (gN 4) (sStore 3 (eOp addR (eOp ixR (eVar 3) (eVar 4)) (eOp mulR (eVar 2) (eOp ixR (eVar 1) (eVar 4)))) (eVar 4)))
  (sRet (eCall sp__law_trim (aCons (eVar 3) aNil))))))

def d__law_product : DS :=
  (sSeq (sOwn 2 (eOp mulR (eLst (aCons (eC (.int 0)) aNil)) (eOp max2R (eC (.int 0)) (eOp subR (eOp addR (eOp1 lenR (eVar 0)) (eOp1 lenR (eVar 1))) (eC (.int 1))))))
  (sSeq (sFor (iRange1 (aCons (eOp1 lenR (eVar 0)) aNil)) (gN 3) (sFor (iRange1 (aCons (eOp1 lenR (eVar 1)) aNil)) (gN 4) (sStore 2 (eOp addR (eOp ixR (eVar 2) (eOp addR (eVar 3) (eVar 4))) (eOp mulR (eOp ixR (eVar 0) (eVar 3)) (eOp ixR (eVar 1) (eVar 4)))) (eOp addR (eVar 3) (eVar 4)))))
  (sRet (eCall sp__law_trim (aCons (eVar 2) aNil)))))

def d__law_slope : DS :=
  (sRet (eCall sp__law_trim (aCons (eLc (iRange2 (aCons (eC (.int 1)) (aCons (eOp1 lenR (eVar 0)) aNil))) (CT.one 1) tYesD (eOp mulR (eVar 1) (eOp ixR (eVar 0) (eVar 1))) [1]) aNil)))

theorem last_app {q : List Int} {b : Int} : (q ++ [b]).getLast? = some b := List.getLast?_concat
theorem eqD_int0 {b : Int} : eqD (.int b) (.int 0) = decide (b = 0) := eqD_ii
theorem trim_while {c : DT} {s : DS} {D' : DEnds} {e0 : En} {f : Fx D'} {ns : List Int} (pre post : En)
    (hc : ∀ xs QT, c.run (pre ++ .ow (iL xs) :: post) QT = (match xs.getLast? with | none => QT false (pre ++ .ow (iL xs) :: post) | some b => QT (decide (b = 0)) (pre ++ .ow (iL xs) :: post)))
    (hs : ∀ xs D1, xs ≠ [] → s.run D1 (pre ++ .ow (iL xs) :: post) = D1.nx (pre ++ .ow (iL xs.dropLast) :: post))
    (he : e0 = pre ++ .ow (iL ns) :: post) (hd : D'.nx (pre ++ .ow (iL (trim ns)) :: post)) : WhileF c s D' e0 f := by
  refine while_go (fun e => ∃ xs, e = pre ++ .ow (iL xs) :: post ∧ trim xs = trim ns) (fun e => match e[pre.length]? with | some (.ow xs) => xs.length | _ => 0) ⟨ns, he, rfl⟩ ?_
  rintro e ⟨xs, rfl, ht⟩
  rw [hc]
  rcases List.eq_nil_or_concat xs with rfl | ⟨q, b, rfl⟩
  · show D'.nx _
    rw [← ht] at hd
    exact hd
  · rw [List.concat_eq_append] at *
    rw [last_app]
    show (if decide (b = 0) = true then _ else _)
    by_cases hb : b = 0
    · subst hb
      rw [if_pos (by decide), hs _ _ (by simp)]
      refine ⟨⟨q, by rw [List.dropLast_concat], ?_⟩, ?_⟩
      · rw [← ht, ← trim_dropLast last_app, List.dropLast_concat]
      · rw [List.getElem?_append_right (Nat.le_refl _), List.getElem?_append_right (Nat.le_refl _), Nat.sub_self]
        simp
    · rw [if_neg (by simpa using hb)]
      have : Tr (q ++ [b]) := .inr (by rw [last_app]; simpa using hb)
      rw [← ht, tr_trim this] at hd
      exact hd
theorem k_trimmed : sp_trimmed.Ok 2 d_trimmed := by
  intro (ns : List Int) _
  simp [entry, sp_trimmed, Spec.det]
  simp -dsimp [d_trimmed]
  refine trim_while (ns := ns) [.sh (lsD ns)] [] (fun xs QT => ?_) (fun xs D1 h => ?_) rfl ?_
  · rcases List.eq_nil_or_concat xs with rfl | ⟨q, b, rfl⟩
    · simp -dsimp
    · rw [List.concat_eq_append, last_app]
      have ne : ¬ (q ++ [b] = []) := by simp
      simp -dsimp [last_app, ne]
  · rcases List.eq_nil_or_concat xs with rfl | ⟨q, b, rfl⟩
    · exact absurd rfl h
    · rw [List.concat_eq_append]
      simp -dsimp [last_app]
  · simp -dsimp
theorem mulL64 {i j : Int} (h : i.natAbs < 18446744073709551616) : IntMulOk i j := mulOkL (by rw [show (2 : Nat) ^ 64 = 18446744073709551616 by decide]; exact h)
theorem mulR64 {i j : Int} (h : j.natAbs < 18446744073709551616) : IntMulOk i j := mulOkR (by rw [show (2 : Nat) ^ 64 = 18446744073709551616 by decide]; exact h)
theorem szLit' {i : Int} (h : i.natAbs < 18446744073709551616) : Sz 9000 i := Sz.up (n := 64) (by unfold Sz; rw [show (2 : Nat) ^ 64 = 18446744073709551616 by decide]; exact h) (by decide)
theorem trim_mem {p : List Int} {x : Int} (h : x ∈ trim p) : x ∈ p := by
  induction p with
  | nil => exact h
  | cons a t ih =>
    rw [trim_cons] at h
    split at h
    · cases h
    · rcases List.mem_cons.mp h with h | h
      · exact h ▸ List.mem_cons_self
      · exact List.mem_cons_of_mem _ (ih h)
theorem mem_coef {p : List Int} {k : Nat} (h : k < p.length) : coef p k ∈ p := by rw [coef_lt h]; exact List.getElem_mem h
theorem max0_eq {a b : Nat} : (if 1 < (a : Int) + (b : Int) then (a : Int) + (b : Int) - 1 else 0) = ((a + b - 1 : Nat) : Int) := by omega
theorem max0_toNat {a : Nat} : (a : Int).toNat = a := rfl
theorem cut1 {xs : List Int} : cutD (iL xs) (some 1) none = iL (xs.drop 1) := by
  unfold cutD
  have e : HT.sIx (iL xs).length 0 (some 1) = min 1 (iL xs).length := HT.sIx_nat _ _ 1
  rw [e, HT.sIx_none, List.take_of_length_le (by simp), iL_drop]
  congr 1
  rw [iL_len]
  by_cases h : 1 ≤ xs.length
  · rw [Nat.min_eq_left h]
  · rw [List.drop_eq_nil_of_le (by omega), List.drop_eq_nil_of_le (by omega)]
theorem coef_drop {xs : List Int} {i k : Nat} : coef (xs.drop i) k = coef xs (i + k) := by
  unfold coef
  rw [List.getD_eq_getElem?_getD, List.getD_eq_getElem?_getD, List.getElem?_drop]
theorem max2_nn {a b : Nat} : (if (b : Int) > (a : Int) then (b : Int) else (a : Int)) = ((max a b : Nat) : Int) := by omega
theorem max2_lt {a b : Nat} : (if a < b then (b : Int) else (a : Int)) = ((max a b : Nat) : Int) := by omega
theorem k_added : sp_added.Ok 5 d_added := by
  rintro ⟨p, q⟩ h
  have h : p.length + q.length ≤ 1000000 := h
  simp [entry, sp_added, Spec.det]
  simp -dsimp [d_added, max2_lt]
  refine ⟨by omega, ?_⟩
  obtain ⟨L, hL⟩ : ∃ L, L = max p.length q.length := ⟨_, rfl⟩
  rw [← hL]
  refine forE (ns := p) (fun Q => by simp) (fun m e => ∃ xs s3 s4, e = [.sh (lsD p), .sh (lsD q), .ow (iL xs), s3, s4] ∧ xs.length = L ∧ ∀ k, coef xs k = if k < m then coef p k else 0) ⟨_, _, _, rfl, by simp, fun k => by simp [coef_repl]⟩ ?_ ?_
  · rintro m hm e ⟨xs, s3, s4, rfl, hl, hx⟩
    have hm' : m < xs.length := by omega
    simp -dsimp [atI_n' hm', at_n' hm', ixN_n' hm']
    refine hold ⟨_, _, _, rfl, by simpa using hl, fun k => ?_⟩
    rw [coef_set hm', hx m, hx k]
    by_cases e : k = m
    · subst e; simp
    · by_cases g : k < m
      · rw [if_neg e, if_pos g, if_pos (by omega)]
      · rw [if_neg e, if_neg g, if_neg (by omega)]
  rintro e ⟨xs, s3, s4, rfl, hl, hx⟩
  simp -dsimp
  refine forE (ns := q) (fun Q => by simp) (fun m e => ∃ xs s3 s4, e = [.sh (lsD p), .sh (lsD q), .ow (iL xs), s3, s4] ∧ xs.length = L ∧ ∀ k, coef xs k = coef p k + if k < m then coef q k else 0) ⟨_, _, _, rfl, hl, fun k => ?_⟩ ?_ ?_
  · rw [hx k]
    by_cases g : k < p.length
    · simp [g]
    · rw [coef_ge (p := p) (by omega)]; simp
  · rintro m hm e ⟨xs, s3, s4, rfl, hl, hx⟩
    have hm' : m < xs.length := by omega
    simp -dsimp [atI_n' hm', at_n' hm', ixN_n' hm']
    refine hold ⟨_, _, _, rfl, by simpa using hl, fun k => ?_⟩
    rw [coef_set hm', hx m, hx k]
    by_cases e : k = m
    · subst e; simp
    · by_cases g : k < m
      · rw [if_neg e, if_pos g, if_pos (by omega)]
      · rw [if_neg e, if_neg g, if_neg (by omega)]
  rintro e ⟨xs, s3, s4, rfl, hl, hx⟩
  simp -dsimp
  refine trim_ext fun k => ?_
  rw [hx k, coef_mkL]
  have hq : (if k < q.length then coef q k else 0) = coef q k := by
    split
    · rfl
    · rw [coef_ge (p := q) (by omega)]
  rw [hq]
  by_cases g : k < max p.length q.length
  · rw [if_pos g, Int.one_mul]
  · rw [if_neg g, coef_ge (p := p) (by omega), coef_ge (p := q) (by omega)]
    rfl
theorem k_scaled : sp_scaled.Ok 3 d_scaled := by
  rintro ⟨p, c⟩ ⟨h, hm⟩
  have h : p.length ≤ 1000000 := h
  have hm : ∀ y ∈ p, IntMulOk c y := hm
  simp [entry, sp_scaled, Spec.det]
  simp -dsimp [d_scaled]
  refine lcL (iL p) (p.map fun x => c * x) (by simp) (by simpa using h) (fun Q => by simp) (by simp) (fun k hk => ?_) ?_
  · have hk : k < p.length := by simpa using hk
    have := hm _ (List.getElem_mem hk)
    rw [iL_get hk, coef_map (Int.mul_zero c), coef_lt hk]
    simp -dsimp [this]
  · simp -dsimp
    rfl
theorem k_taken : sp_taken.Ok 2 d_taken := by
  rintro ⟨p, q⟩ h
  have h : p.length + q.length ≤ 1000000 := h
  have mm : ∀ y ∈ q, IntMulOk (-1) y := fun y _ => mulOkL (by decide)
  simp [entry, sp_taken, Spec.det]
  simp -dsimp [d_taken]
  refine ⟨⟨by omega, mm⟩, ?_, ?_⟩
  · have := trim_len (q.map fun x => -1 * x)
    rw [List.length_map] at this
    show p.length + (sclL (-1) q).length ≤ 1000000
    unfold sclL
    omega
  · refine tr_ext (trim_tr _) (trim_tr _) fun k => ?_
    show coef (sumL p (sclL (-1) q) 1) k = coef (sumL p q (-1)) k
    simp
theorem k_ptimes : sp_ptimes.Ok 7 d_ptimes := by
  rintro ⟨p, q⟩ ⟨h, hm⟩
  have h : p.length + q.length ≤ 1000000 := h
  have hm : ∀ x ∈ p, ∀ y ∈ q, IntMulOk x y := hm
  simp [entry, sp_ptimes, Spec.det]
  simp -dsimp [d_ptimes, max0_eq]
  refine ⟨by omega, ?_⟩
  obtain ⟨L, hL⟩ : ∃ L, L = p.length + q.length - 1 := ⟨_, rfl⟩
  rw [← hL]
  refine forE (ns := p) (fun Q => by simp) (fun i e => ∃ xs s3 s4 s5 s6, e = [.sh (lsD p), .sh (lsD q), .ow (iL xs), s3, s4, s5, s6] ∧ xs.length = L ∧ ∀ k, k < L → coef xs k = cs p q i k) ⟨_, _, _, _, _, rfl, by simp, fun k _ => by simp [coef_repl, cs]⟩ ?_ ?_
  · rintro i hi e ⟨xs, s3, s4, s5, s6, rfl, hl, hx⟩
    simp -dsimp
    refine forE (ns := q) (fun Q => by simp) (fun j e => ∃ xs s5 s6, e = [.sh (lsD p), .sh (lsD q), .ow (iL xs), .sh (.int i), .sh (.int (coef p i)), s5, s6] ∧ xs.length = L ∧ ∀ k, k < L → coef xs k = cs p q i k + if i ≤ k ∧ k - i < j then coef p i * coef q (k - i) else 0) ⟨_, _, _, rfl, hl, fun k hk => by rw [hx k hk, if_neg (by omega), Int.add_zero]⟩ ?_ ?_
    · rintro j hj e ⟨xs, s5, s6, rfl, hl, hx⟩
      have hm' : i + j < xs.length := by omega
      have a1 : atI (iL xs) ((i : Int) + (j : Int)) = some (.int (coef xs (i + j))) := atI_n' hm'
      have a2 : ixN xs.length ((i : Int) + (j : Int)) = some (i + j) := ixN_n' hm'
      have a3 : IntMulOk (coef p i) (coef q j) := hm _ (mem_coef hi) _ (mem_coef hj)
      simp -dsimp [a1, a2, a3]
      refine hold ⟨_, _, _, rfl, by simpa using hl, fun k hk => ?_⟩
      rw [coef_set hm', hx (i + j) (by omega), hx k hk]
      by_cases e : k = i + j
      · subst e
        rw [if_pos rfl, if_neg (by omega), if_pos (by omega), Nat.add_sub_cancel_left, Int.add_zero]
      · rw [if_neg e]
        by_cases g : i ≤ k ∧ k - i < j
        · rw [if_pos g, if_pos (by omega)]
        · rw [if_neg g, if_neg (by omega)]
    · rintro e ⟨xs, s5, s6, rfl, hl, hx⟩
      simp -dsimp
      refine hold ⟨_, _, _, _, _, rfl, hl, fun k hk => ?_⟩
      rw [hx k hk]
      unfold cs
      rw [Sg_s]
      congr 1
      by_cases g : i ≤ k
      · rw [if_pos g]
        by_cases g' : k - i < q.length
        · rw [if_pos ⟨g, g'⟩]
        · rw [if_neg (fun z => g' z.2), coef_ge (p := q) (by omega), Int.mul_zero]
      · rw [if_neg g, if_neg (fun z => g z.1)]
  rintro e ⟨xs, s3, s4, s5, s6, rfl, hl, hx⟩
  simp -dsimp
  refine trim_ext fun k => ?_
  rw [coef_mkL]
  by_cases g : k < L
  · rw [hx k g, cs_len (Nat.le_refl _), if_pos (by omega)]
  · rw [coef_ge (p := xs) (by omega), if_neg (by omega)]
theorem k_slope : sp_slope.Ok 3 d_slope := by
  intro (p : List Int) (h : p.length ≤ 1000000)
  simp [entry, sp_slope, Spec.det]
  simp -dsimp [d_slope]
  refine lcL (enumD (iL p)) (mkL p.length fun k => (k : Int) * coef p k) (by simp [enumD_len]) (by simpa using h) (fun Q => by simp) (by simp) (fun k hk => ?_) ?_
  · have hk : k < p.length := by simpa [enumD_len] using hk
    have e : (enumD (iL p))[k]'(by simpa [enumD_len] using hk) = .tup [.int k, .int (coef p k)] := by
      refine Option.some.inj ?_
      rw [← List.getElem?_eq_getElem, enumD_get, iL_at, at_n' hk]
      rfl
    have m1 : IntMulOk (k : Int) (coef p k) := mulL64 (by omega)
    rw [e, coef_mkL, if_pos hk]
    simp -dsimp [m1]
  · simp -dsimp [cut1]
    refine tr_ext (trim_tr _) (trim_tr _) fun k => ?_
    rw [coef_trim, coef_slpL, ← List.drop_one, coef_drop, coef_mkL, Nat.add_comm]
    split
    · rfl
    · rw [coef_ge (by omega), Int.mul_zero]
theorem k__law_trim : sp__law_trim.Ok 1 d__law_trim := by
  intro (ns : List Int) _
  simp [entry, sp__law_trim, sp_trimmed, Spec.det]
  simp -dsimp [d__law_trim]
  refine trim_while (ns := ns) [] [] (fun xs QT => ?_) (fun xs D1 h => ?_) rfl ?_
  · rcases List.eq_nil_or_concat xs with rfl | ⟨q, b, rfl⟩
    · simp -dsimp
    · rw [List.concat_eq_append, last_app]
      have ne : ¬ (q ++ [b] = []) := by simp
      simp -dsimp [last_app, ne]
  · rcases List.eq_nil_or_concat xs with rfl | ⟨q, b, rfl⟩
    · exact absurd rfl h
    · rw [List.concat_eq_append]
      simp -dsimp [last_app]
  · simp -dsimp
theorem k_is_poly : sp_is_poly.Ok 1 d_is_poly := by
  intro (ns : List Int) _
  simp [entry, sp_is_poly, Spec.det]
  rcases List.eq_nil_or_concat ns with rfl | ⟨q, b, rfl⟩
  · have : Tr [] := .inl rfl
    simp -dsimp [d_is_poly, this]
  · rw [List.concat_eq_append]
    have ne : ¬ (q ++ [b] = []) := by simp
    have e : Tr (q ++ [b]) ↔ b ≠ 0 := by
      unfold Tr
      rw [last_app]
      simp
    simp -dsimp [d_is_poly, last_app, ne, e]
theorem k__law_is_poly : sp__law_is_poly.Ok 2 d__law_is_poly := by
  intro (ns : List Int) _
  simp [entry, sp__law_is_poly, sp_is_poly, Spec.det]
  simp -dsimp [d__law_is_poly]
  refine lc_go (iL ns) _ (fun Q q => by simpa using q) (by simp) (fun k o e1 => o = [] ∧ e1 = [.sh (lsD ns), .no]) ⟨rfl, by simp⟩ ?_ ?_
  · rintro k x o e1 hx ⟨rfl, rfl⟩
    rw [iL_at] at hx
    by_cases h : k < ns.length
    · rw [List.getElem?_eq_getElem h] at hx
      cases hx
      simp -dsimp
    · rw [List.getElem?_eq_none (by omega)] at hx
      cases hx
  · rintro o e1 ⟨rfl, rfl⟩
    rcases List.eq_nil_or_concat ns with rfl | ⟨q, b, rfl⟩
    · have : Tr [] := .inl rfl
      simp -dsimp [this]
    · rw [List.concat_eq_append]
      have ne : ¬ (q ++ [b] = []) := by simp
      have e : Tr (q ++ [b]) ↔ b ≠ 0 := by
        unfold Tr
        rw [last_app]
        simp
      simp -dsimp [last_app, ne, e]
theorem k__law_slope : sp__law_slope.Ok 2 d__law_slope := by
  intro (p : List Int) (h : p.length ≤ 1000000)
  simp [entry, sp__law_slope, sp_slope, Spec.det]
  simp -dsimp [d__law_slope]
  have sz : Sm (p.length : Int) := sm_n (by omega)
  refine lcL (rangeD 1 (p.length - 1)) (mkL (p.length - 1) fun k => ((k + 1 : Nat) : Int) * coef p (k + 1)) (by simp [rangeD_len]) (by simp; omega) (fun Q => by simp [sz]) (by simp) (fun k hk => ?_) ?_
  · have hk : k < p.length - 1 := by simpa [rangeD_len] using hk
    have e : (rangeD 1 (p.length - 1))[k]'(by simpa [rangeD_len] using hk) = .int ((k + 1 : Nat) : Int) := by
      refine Option.some.inj ?_
      rw [← List.getElem?_eq_getElem, rangeD_get, if_pos hk]
      congr 2
      omega
    have m1 : IntMulOk ((k : Int) + 1) (coef p (k + 1)) := mulL64 (by omega)
    have a1 : atI (iL p) ((k : Int) + 1) = some (.int (coef p (k + 1))) := atI_n' (m := k + 1) (by omega)
    rw [e, coef_mkL, if_pos hk]
    simp -dsimp [m1, a1]
  · simp -dsimp
    rfl
theorem k__law_product : sp__law_product.Ok 5 d__law_product := by
  rintro ⟨p, q⟩ ⟨h, hm⟩
  have h : p.length + q.length ≤ 1000000 := h
  have hm : ∀ x ∈ p, ∀ y ∈ q, IntMulOk x y := hm
  simp [entry, sp__law_product, sp_ptimes, Spec.det]
  simp -dsimp [d__law_product, max0_eq]
  refine ⟨by omega, ?_⟩
  obtain ⟨L, hL⟩ : ∃ L, L = p.length + q.length - 1 := ⟨_, rfl⟩
  rw [← hL]
  refine forR (n := p.length) (by omega) (fun Q => by simp) (fun i e => ∃ xs s3 s4, e = [.sh (lsD p), .sh (lsD q), .ow (iL xs), s3, s4] ∧ xs.length = L ∧ ∀ k, k < L → coef xs k = cs p q i k) ⟨_, _, _, rfl, by simp, fun k _ => by simp [coef_repl, cs]⟩ ?_ ?_
  · rintro i hi e ⟨xs, s3, s4, rfl, hl, hx⟩
    simp -dsimp
    refine forR (n := q.length) (by omega) (fun Q => by simp) (fun j e => ∃ xs s4, e = [.sh (lsD p), .sh (lsD q), .ow (iL xs), .sh (.int i), s4] ∧ xs.length = L ∧ ∀ k, k < L → coef xs k = cs p q i k + if i ≤ k ∧ k - i < j then coef p i * coef q (k - i) else 0) ⟨_, _, rfl, hl, fun k hk => by rw [hx k hk, if_neg (by omega), Int.add_zero]⟩ ?_ ?_
    · rintro j hj e ⟨xs, s4, rfl, hl, hx⟩
      have hm' : i + j < xs.length := by omega
      have a1 : atI (iL xs) ((i : Int) + (j : Int)) = some (.int (coef xs (i + j))) := atI_n' hm'
      have a2 : ixN xs.length ((i : Int) + (j : Int)) = some (i + j) := ixN_n' hm'
      have a3 : IntMulOk (coef p i) (coef q j) := hm _ (mem_coef hi) _ (mem_coef hj)
      simp -dsimp [a1, a2, a3, at_n' hi, at_n' hj]
      refine hold ⟨_, _, rfl, by simpa using hl, fun k hk => ?_⟩
      rw [coef_set hm', hx (i + j) (by omega), hx k hk]
      by_cases e : k = i + j
      · subst e
        rw [if_pos rfl, if_neg (by omega), if_pos (by omega), Nat.add_sub_cancel_left, Int.add_zero]
      · rw [if_neg e]
        by_cases g : i ≤ k ∧ k - i < j
        · rw [if_pos g, if_pos (by omega)]
        · rw [if_neg g, if_neg (by omega)]
    · rintro e ⟨xs, s4, rfl, hl, hx⟩
      simp -dsimp
      refine hold ⟨_, _, _, rfl, hl, fun k hk => ?_⟩
      rw [hx k hk]
      unfold cs
      rw [Sg_s]
      congr 1
      by_cases g : i ≤ k
      · rw [if_pos g]
        by_cases g' : k - i < q.length
        · rw [if_pos ⟨g, g'⟩]
        · rw [if_neg (fun z => g' z.2), coef_ge (p := q) (by omega), Int.mul_zero]
      · rw [if_neg g, if_neg (fun z => g z.1)]
  rintro e ⟨xs, s3, s4, rfl, hl, hx⟩
  simp -dsimp
  refine trim_ext fun k => ?_
  rw [coef_mkL]
  by_cases g : k < L
  · rw [hx k g, cs_len (Nat.le_refl _), if_pos (by omega)]
  · rw [coef_ge (p := xs) (by omega), if_neg (by omega)]
theorem k__law_sum : sp__law_sum.Ok 5 d__law_sum := by
  rintro ⟨p, q, c⟩ ⟨h, hc⟩
  have h : p.length + q.length ≤ 1000000 := h
  have hc : c.natAbs < 2 ^ 64 := hc
  have m1 : ∀ y, IntMulOk c y := fun y => mulOkL hc
  simp [entry, sp__law_sum, Spec.det]
  simp -dsimp [d__law_sum, max2_lt]
  refine ⟨by omega, ?_⟩
  obtain ⟨L, hL⟩ : ∃ L, L = max p.length q.length := ⟨_, rfl⟩
  rw [← hL]
  refine forR (n := p.length) (by omega) (fun Q => by simp) (fun m e => ∃ xs s4, e = [.sh (lsD p), .sh (lsD q), .sh (.int c), .ow (iL xs), s4] ∧ xs.length = L ∧ ∀ k, coef xs k = if k < m then coef p k else 0) ⟨_, _, rfl, by simp, fun k => by simp [coef_repl]⟩ ?_ ?_
  · rintro m hm e ⟨xs, s4, rfl, hl, hx⟩
    have hm' : m < xs.length := by omega
    simp -dsimp [at_n' hm', ixN_n' hm', at_n' hm]
    refine hold ⟨_, _, rfl, by simpa using hl, fun k => ?_⟩
    rw [coef_set hm', hx m, hx k]
    by_cases e : k = m
    · subst e; simp
    · by_cases g : k < m
      · rw [if_neg e, if_pos g, if_pos (by omega)]
      · rw [if_neg e, if_neg g, if_neg (by omega)]
  rintro e ⟨xs, s4, rfl, hl, hx⟩
  simp -dsimp
  refine forR (n := q.length) (by omega) (fun Q => by simp) (fun m e => ∃ xs s4, e = [.sh (lsD p), .sh (lsD q), .sh (.int c), .ow (iL xs), s4] ∧ xs.length = L ∧ ∀ k, coef xs k = coef p k + if k < m then c * coef q k else 0) ⟨_, _, rfl, hl, fun k => ?_⟩ ?_ ?_
  · rw [hx k]
    by_cases g : k < p.length
    · simp [g]
    · rw [coef_ge (p := p) (by omega)]; simp
  · rintro m hm e ⟨xs, s4, rfl, hl, hx⟩
    have hm' : m < xs.length := by omega
    simp -dsimp [at_n' hm', ixN_n' hm', at_n' hm, m1]
    refine hold ⟨_, _, rfl, by simpa using hl, fun k => ?_⟩
    rw [coef_set hm', hx m, hx k]
    by_cases e : k = m
    · subst e; simp
    · by_cases g : k < m
      · rw [if_neg e, if_pos g, if_pos (by omega)]
      · rw [if_neg e, if_neg g, if_neg (by omega)]
  rintro e ⟨xs, s4, rfl, hl, hx⟩
  simp -dsimp
  refine trim_ext fun k => ?_
  rw [hx k, coef_mkL]
  have hq : (if k < q.length then c * coef q k else 0) = c * coef q k := by
    split
    · rfl
    · rw [coef_ge (p := q) (by omega), Int.mul_zero]
  rw [hq]
  by_cases g : k < max p.length q.length
  · rw [if_pos g]
  · rw [if_neg g, coef_ge (p := p) (by omega), coef_ge (p := q) (by omega), Int.mul_zero]
    rfl
theorem k__law_poly : sp__law_poly.Ok 6 d__law_poly := by
  rintro ⟨c, n, b⟩ ⟨h1, h2⟩
  have h1 : n ≤ 1000 := h1
  have h2 : b ≤ 10 ^ 100 := h2
  have e100 : (10 : Nat) ^ 100 < 2 ^ 9000 := by decide +kernel
  have z1 : Sz 9000 ((n : Int) + 2) := szLit' (by omega)
  have z2 : Sz 9000 (2 * (b : Int) + 1) := by
    unfold Sz
    have : 2 * 10 ^ 100 + 1 < 2 ^ 9000 := by decide +kernel
    omega
  have m1 : IntMulOk 2 (b : Int) := mulL64 (by decide)
  simp [entryS, sp__law_poly]
  simp -dsimp [d__law_poly, z1]
  refine ⟨by omega, ?_⟩
  have r0 := Int.emod_nonneg c (b := (n : Int) + 2) (by omega)
  have r1 := Int.emod_lt_of_pos c (b := (n : Int) + 2) (by omega)
  obtain ⟨m, hm⟩ := Int.eq_ofNat_of_zero_le r0
  rw [hm] at r1 ⊢
  have sm : Sm (m : Int) := sm_n (by omega)
  refine lcI (rangeD 0 m) [.io [.int (c / (n + 2))], .sh (.int n), .sh (.int b), .sh (.int m), .no, .no] (fun Q q => by simpa [sm] using q) (by simp) (fun k o e1 => ∃ xs c', o = iL xs ∧ xs.length = k ∧ (∀ x ∈ xs, -(b : Int) ≤ x ∧ x ≤ b) ∧ e1 = [.io [.int c'], .sh (.int n), .sh (.int b), .sh (.int m), .no, .no]) ⟨[], _, rfl, rfl, by simp, by simp; rfl⟩ ?_ ?_
  · rintro k x o e1 hx ⟨xs, c', rfl, hl, hb, rfl⟩
    rw [rangeD_get] at hx
    split at hx
    · cases hx
      simp -dsimp [m1, z2]
      refine ⟨by omega, by omega, holdL ⟨xs ++ [c' % (2 * (b : Int) + 1) - b], _, ?_, by simp [hl], ?_, rfl⟩⟩
      · rw [← iL_app]; rfl
      · intro x hx
        rcases List.mem_append.mp hx with h | h
        · exact hb x h
        · rw [List.mem_singleton.mp h]
          have a := Int.emod_nonneg c' (b := 2 * (b : Int) + 1) (by omega)
          have a' := Int.emod_lt_of_pos c' (b := 2 * (b : Int) + 1) (by omega)
          omega
    · cases hx
  · rintro o e1 ⟨xs, c', rfl, hl, hb, rfl⟩
    rw [rangeD_len] at hl
    simp -dsimp
    refine ⟨?_, ?_, trim_tr _⟩
    · have := trim_len xs
      omega
    · exact fun x hx => hb x (trim_mem hx)
end Dn

set_option Elab.async false
set_option linter.all false
set_option maxRecDepth 100000
set_option maxHeartbeats 4000000
set_option exponentiation.threshold 100000
/-! polynomials: powers, values -/
namespace Dn
open PySem PySem.Spec PyProof.Rows L2
/-- the value, times a power of the den -/
def svL (p : List Int) (a b : Int) : Int := Sg p.length fun k => coef p k * (a ^ k * b ^ (p.length - 1 - k))
def PV (s t : Nat) (p : List Int) (r : Rat) : Prop := (∀ x ∈ p, Sz t x) ∧ RSz s r ∧ t + (s + 1) * (p.length + 1) ≤ 8000
def sp_power : Spec := .det (List Int × Nat) (fun x => [lsD x.1, .int x.2]) (fun x => (x.1.length * (x.2 + 2) ≤ 900000 ∧ x.2 ≤ 1000000) ∧ ∀ y ∈ x.1, y.natAbs < 2 ^ 64) fun x => .sh (lsD (powL x.1 x.2))
def sp_scaled_value : Spec := ⟨List Int × Rat × Nat × Nat, fun x => [lsD x.1, frD x.2.1], fun x => PV x.2.2.1 x.2.2.2 x.1 x.2.1, fun x r => r = .sh (.int (svL x.1 x.2.1.num x.2.1.den))⟩
def sp_value : Spec := ⟨List Int × Rat × Nat × Nat, fun x => [lsD x.1, frD x.2.1], fun x => PV x.2.2.1 x.2.2.2 x.1 x.2.1, fun x r => r = .sh (frD (Rat.divInt (svL x.1 x.2.1.num x.2.1.den) ((x.2.1.den : Int) ^ (x.1.length - 1))))⟩
def sp_sign_at : Spec := ⟨List Int × Rat × Nat × Nat, fun x => [lsD x.1, frD x.2.1], fun x => PV x.2.2.1 x.2.2.2 x.1 x.2.1, fun x r => r = .sh (.int (svL x.1 x.2.1.num x.2.1.den).sign)⟩
def sp__law_sign : Spec := sp_sign
section
variable {Q : Rv → Prop} {f : Fx Q}
@[simp ↓] theorem c_power {p : List Int} {n : Nat} : sp_power.Run [lsD p, .int n] Q f = (((p.length * (n + 2) ≤ 900000 ∧ n ≤ 1000000) ∧ ∀ y ∈ p, y.natAbs < 2 ^ 64) ∧ Q (.sh (lsD (powL p n)))) := Spec.det_run (fun x y h => by
  obtain ⟨a, c⟩ := x
  obtain ⟨a', c'⟩ := y
  simp only [List.cons.injEq, D.lst.injEq, iL_eq, D.int.injEq, and_true] at h
  rw [h.1, Int.ofNat_inj.mp h.2]) (p, n)
theorem c_scaled_value {p : List Int} {r : Rat} {s t : Nat} (h : PV s t p r) (q : Q (.sh (.int (svL p r.num r.den)))) : sp_scaled_value.Run [lsD p, frD r] Q f :=
  Spec.go sp_scaled_value (p, r, s, t) rfl h fun _ hr => by cases hr; exact q
theorem c_value {p : List Int} {r : Rat} {s t : Nat} (h : PV s t p r) (q : Q (.sh (frD (Rat.divInt (svL p r.num r.den) ((r.den : Int) ^ (p.length - 1)))))) : sp_value.Run [lsD p, frD r] Q f :=
  Spec.go sp_value (p, r, s, t) rfl h fun _ hr => by cases hr; exact q
theorem c_sign_at {p : List Int} {r : Rat} {s t : Nat} (h : PV s t p r) (q : Q (.sh (.int (svL p r.num r.den).sign))) : sp_sign_at.Run [lsD p, frD r] Q f :=
  Spec.go sp_sign_at (p, r, s, t) rfl h fun _ hr => by cases hr; exact q
@[simp ↓] theorem c__law_sign {a : Int} : sp__law_sign.Run [.int a] Q f = Q (.sh (.int a.sign)) := c_sign
end
def d_power : DS :=
  (sSeq (sSet 2 (eLst (aCons (eC (.int 1)) aNil)))
  (sSeq (sFor (iRange1 (aCons (eVar 1) aNil)) (gN 3) (sSet 2 (eCall sp_ptimes (aCons (eVar 2) (aCons (eVar 0) aNil)))))
  (sRet (eVar 2))))

def d_scaled_value : DS :=
  (sSeq (sSet 2 (eC (.int 0)))
  (sSeq (sSet 3 (eC (.int 1)))
  (sSeq (sFor (iListArg List.reverse (aCons (eVar 0) aNil)) (gN 4) (sSeq (sSet 2 (eOp addR (eOp mulR (eVar 2) (eOp ixR (eVar 1) (eC (.int 0)))) (eOp mulR (eVar 4) (eVar 3))))
  (sAug 3 imulR (eOp ixR (eVar 1) (eC (.int 1))))))
  (sRet (eVar 2)))))

def d_value : DS :=
  (sSeq (sSet 2 (eC (.int 1)))
  (sSeq (sFor (iRange1 (aCons (eOp subR (eOp1 lenR (eVar 0)) (eC (.int 1))) aNil)) (gN 3) (sAug 2 imulR (eOp ixR (eVar 1) (eC (.int 1)))))
  (sRet (eCall sp_ratio (aCons (eCall sp_scaled_value (aCons (eVar 0) (aCons (eVar 1) aNil))) (aCons (eVar 2) aNil))))))

def d_sign_at : DS :=
  (sRet (eCall sp_sign (aCons (eCall sp_scaled_value (aCons (eVar 0) (aCons (eVar 1) aNil))) aNil)))

def d__law_sign : DS :=
  (sRet (eOp subR (eOp1 intR (eOp gtR (eVar 0) (eC (.int 0)))) (eOp1 intR (eOp ltR (eVar 0) (eC (.int 0))))))

theorem mul_len (p q : List Int) : (mulL p q).length ≤ p.length + q.length - 1 := by
  have := trim_len (mkL (p.length + q.length - 1) (conv p q))
  rw [mkL_len] at this
  exact this
theorem pow_len (p : List Int) (n : Nat) : (powL p n).length ≤ p.length * n + 1 := by
  induction n with
  | zero => exact Nat.le_refl _
  | succ n ih =>
    have := mul_len (powL p n) p
    show (mulL (powL p n) p).length ≤ _
    rw [Nat.mul_succ]
    omega
theorem k_power : sp_power.Ok 4 d_power := by
  rintro ⟨p, n⟩ ⟨⟨h, hn⟩, hm⟩
  have h : p.length * (n + 2) ≤ 900000 := h
  have hn : n ≤ 1000000 := hn
  have hm : ∀ y ∈ p, y.natAbs < 2 ^ 64 := hm
  simp [entry, sp_power, Spec.det]
  simp -dsimp [d_power]
  have one : [D.int 1] = iL (powL p 0) := rfl
  rw [one]
  refine forR (n := n) (by omega) (fun Q => by simp) (fun m e => ∃ s, e = [.sh (lsD p), .sh (.int n), .sh (lsD (powL p m)), s]) ⟨_, rfl⟩ ?_ ?_
  · rintro m hm' e ⟨s, rfl⟩
    have l1 := pow_len p m
    have l2 : p.length * m ≤ p.length * n := Nat.mul_le_mul_left _ (by omega)
    rw [Nat.mul_add] at h
    have a1 : Lim (powL p m) p := by
      show (powL p m).length + p.length ≤ 1000000
      omega
    have a2 : MulOk (powL p m) p := fun x _ y hy => mulOkR (hm y hy)
    simp -dsimp [a1, a2]
    exact hold ⟨_, rfl⟩
  · rintro e ⟨s, rfl⟩
    simp -dsimp
theorem pow_sz {b : Int} {s m : Nat} (h : Sz s b) : Sz (s * m + 1) (b ^ m) := by
  unfold Sz at *
  rw [Int.natAbs_pow]
  have : b.natAbs ^ m ≤ (2 ^ s) ^ m := Nat.pow_le_pow_left (by omega) m
  rw [← Nat.pow_mul] at this
  rw [Nat.pow_succ]
  have : 0 < 2 ^ (s * m) := Nat.two_pow_pos _
  omega
theorem k_scaled_value : sp_scaled_value.Ok 5 d_scaled_value := by
  rintro ⟨p, r, s, t⟩ ⟨h1, h2, h3⟩
  have sp : 1 ≤ s := by
    have := h2.2
    have := r.den_nz
    by_cases z : s = 0
    · subst z
      have h2 : RSz 0 r := h2
      have := h2.2
      omega
    · omega
  have h1 : ∀ x ∈ p, Sz t x := h1
  have h2 : RSz s r := h2
  have h3 : t + (s + 1) * (p.length + 1) ≤ 8000 := h3
  simp [entry, sp_scaled_value]
  simp -dsimp [d_scaled_value]
  refine forL (ns := p.reverse) (fun Q => by simp) (fun m e => ∃ x s4, e = [.sh (lsD p), .sh (frD r), .sh (.int x), .sh (.int ((r.den : Int) ^ m)), s4] ∧ x = Sg m (fun j => coef p (p.length - m + j) * (r.num ^ j * (r.den : Int) ^ (m - 1 - j))) ∧ Sz (t + (s + 1) * m) x) ⟨_, _, rfl, rfl, Nat.two_pow_pos _⟩ ?_ ?_
  · rintro m hm e ⟨x, s4, rfl, hx, hz⟩
    have hm : m < p.length := by simpa using hm
    have e1 : coef p.reverse m = coef p (p.length - (m + 1)) := by
      rw [coef_lt (by simpa using hm), coef_lt (by omega), List.getElem_reverse]
      congr 1
      omega
    have b1 := pow_sz (m := m) h2.den
    have c1 : Sz t (coef p (p.length - (m + 1))) := h1 _ (mem_coef (by omega))
    have le1 : (s + 1) * (m + 1) ≤ (s + 1) * p.length := Nat.mul_le_mul_left _ (by omega)
    have le2 : s * m ≤ (s + 1) * m := Nat.mul_le_mul_right _ (by omega)
    have m1 : IntMulOk x r.num := hz.mulOk h2.num (by rw [Nat.mul_succ] at h3 le1; omega)
    have m2 : IntMulOk (coef p (p.length - (m + 1))) ((r.den : Int) ^ m) := c1.mulOk b1 (by rw [Nat.mul_succ] at h3 le1; omega)
    have m3 : IntMulOk ((r.den : Int) ^ m) (r.den : Int) := b1.mulOk h2.den (by rw [Nat.mul_succ] at h3 le1; omega)
    rw [e1]
    simp -dsimp [m1, m2, m3]
    refine hold ⟨_, _, rfl, ?_, ?_⟩
    · rw [Sg_shift, hx, Int.add_comm]
      congr 1
      · simp
      · rw [Int.mul_comm, ← Sg_mul]
        refine Sg_congr fun j hj => ?_
        rw [show p.length - m + j = p.length - (m + 1) + (j + 1) by omega, show m - 1 - j = m + 1 - 1 - (j + 1) by omega, Int.pow_succ]
        grind
    · have z1 := hz.mul h2.num
      have z2 := c1.mul b1
      have := Sz.add (z1.up (m := t + (s + 1) * m + s) (by omega)) (z2.up (m := t + (s + 1) * m + s) (by
        by_cases z : m = 0
        · subst z; omega
        · have : (s + 1) * m = s * m + m := by rw [Nat.add_mul, Nat.one_mul]
          omega))
      rw [Nat.mul_succ]
      exact this.up (by omega)
  · rintro e ⟨x, s4, rfl, hx, hz⟩
    simp -dsimp
    rw [hx, List.length_reverse]
    unfold svL
    refine Sg_congr fun j hj => ?_
    rw [Nat.sub_self, Nat.zero_add]
theorem k_value : sp_value.Ok 4 d_value := by
  rintro ⟨p, r, s, t⟩ ⟨h1, h2, h3⟩
  have sp : 1 ≤ s := by
    have := h2.2
    have := r.den_nz
    by_cases z : s = 0
    · subst z
      have h2 : RSz 0 r := h2
      have := h2.2
      omega
    · omega
  have h1 : ∀ x ∈ p, Sz t x := h1
  have h2 : RSz s r := h2
  have h3 : t + (s + 1) * (p.length + 1) ≤ 8000 := h3
  simp [entry, sp_value]
  simp -dsimp [d_value]
  have e0 : ((p.length : Int) - 1).toNat = p.length - 1 := by omega
  have le0 : p.length ≤ (s + 1) * (p.length + 1) := Nat.le_trans (Nat.le_succ _) (Nat.le_mul_of_pos_left _ (by omega))
  refine forRi (n := (p.length : Int) - 1) (by exact ⟨by omega, by omega⟩) (fun Q => by simp) (fun m e => ∃ s4, e = [.sh (lsD p), .sh (frD r), .sh (.int ((r.den : Int) ^ m)), s4]) ⟨_, rfl⟩ ?_ ?_
  · rintro m hm e ⟨s4, rfl⟩
    rw [e0] at hm
    have b1 := pow_sz (m := m) h2.den
    have le1 : s * m ≤ (s + 1) * (p.length + 1) := Nat.mul_le_mul (by omega) (by omega)
    have le2 : s ≤ (s + 1) * (p.length + 1) := Nat.le_trans (Nat.le_succ s) (Nat.le_mul_of_pos_right _ (by omega))
    have m3 : IntMulOk ((r.den : Int) ^ m) (r.den : Int) := b1.mulOk h2.den (by omega)
    simp -dsimp [m3]
    exact hold ⟨_, by rw [Int.pow_succ]⟩
  · rintro e ⟨s4, rfl⟩
    rw [e0]
    simp -dsimp
    refine c_scaled_value ⟨h1, h2, h3⟩ ?_
    have b1 := pow_sz (m := p.length - 1) h2.den
    have le1 : s * (p.length - 1) ≤ (s + 1) * (p.length + 1) := Nat.mul_le_mul (by omega) (by omega)
    have b2 : Sz 9000 ((r.den : Int) ^ (p.length - 1)) := b1.up (by omega)
    have b3 : (r.den : Int) ^ (p.length - 1) ≠ 0 := Int.pow_ne_zero (den_ne r)
    simp -dsimp [b2, b3]
theorem k_sign_at : sp_sign_at.Ok 2 d_sign_at := by
  rintro ⟨p, r, s, t⟩ h
  have h : PV s t p r := h
  simp [entry, sp_sign_at]
  simp -dsimp [d_sign_at]
  refine c_scaled_value h ?_
  simp -dsimp
theorem k__law_sign : sp__law_sign.Ok 1 d__law_sign := by
  intro (x : Int) _
  simp [entry, sp__law_sign, sp_sign, Spec.det]
  simp -dsimp [d__law_sign]
  rcases Int.lt_trichotomy x 0 with h | h | h
  · rw [Int.sign_eq_neg_one_of_neg h]
    simp [h]
    omega
  · subst h; rfl
  · rw [Int.sign_eq_one_of_pos h]
    simp [h]
    omega
end Dn

set_option Elab.async false
set_option linter.all false
set_option maxRecDepth 100000
set_option maxHeartbeats 4000000
set_option exponentiation.threshold 100000
/-! values of polynomials at fractions: plain facts -/
namespace Dn
def evR : List Int → Rat → Rat
  | [], _ => 0
  | c :: t, x => (c : Rat) + x * evR t x
@[simp] theorem ev_nil {x : Rat} : evR [] x = 0 := rfl
theorem ev_cons {c : Int} {t : List Int} {x : Rat} : evR (c :: t) x = (c : Rat) + x * evR t x := rfl
theorem ev_zero {p : List Int} {x : Rat} (h : ∀ k, coef p k = 0) : evR p x = 0 := by
  induction p with
  | nil => rfl
  | cons c t ih =>
    rw [ev_cons, ih fun k => h (k + 1), show c = 0 from h 0, Rat.mul_zero, Rat.add_zero]
    rfl
theorem ev_ext {p q : List Int} {x : Rat} (h : ∀ k, coef p k = coef q k) : evR p x = evR q x := by
  induction p generalizing q with
  | nil => exact (ev_zero fun k => by rw [← h k]; simp).symm
  | cons c t ih =>
    cases q with
    | nil => exact ev_zero fun k => by rw [h k]; simp
    | cons d s => rw [ev_cons, ev_cons, show c = d from h 0, ih fun k => h (k + 1)]
@[simp] theorem ev_trim {p : List Int} {x : Rat} : evR (trim p) x = evR p x := ev_ext fun k => coef_trim
/-! sums and products by recursion -/
def addP : List Int → List Int → List Int
  | [], q => q
  | p, [] => p
  | a :: p, b :: q => (a + b) :: addP p q
theorem coef_addP {p q : List Int} {k : Nat} : coef (addP p q) k = coef p k + coef q k := by
  induction p generalizing q k with
  | nil => simp [addP]
  | cons a p ih =>
    cases q with
    | nil => simp [addP]
    | cons b q =>
      cases k with
      | zero => rfl
      | succ k => exact ih
theorem ev_addP {p q : List Int} {x : Rat} : evR (addP p q) x = evR p x + evR q x := by
  induction p generalizing q with
  | nil => simp [addP, Rat.zero_add]
  | cons a p ih =>
    cases q with
    | nil => simp [addP, Rat.add_zero]
    | cons b q =>
      show evR ((a + b) :: addP p q) x = _
      rw [ev_cons, ev_cons, ev_cons, ih, Rat.intCast_add]
      grind
theorem ev_map {c : Int} {p : List Int} {x : Rat} : evR (p.map fun y => c * y) x = (c : Rat) * evR p x := by
  induction p with
  | nil => simp
  | cons a p ih =>
    rw [List.map_cons, ev_cons, ev_cons, ih, Rat.intCast_mul]
    grind
theorem ev_sum {p q : List Int} {c : Int} {x : Rat} : evR (sumL p q c) x = evR p x + (c : Rat) * evR q x := by
  rw [← ev_map, ← ev_addP]
  refine ev_ext fun k => ?_
  rw [coef_sumL, coef_addP, coef_map (Int.mul_zero c)]
theorem ev_sum1 {p q : List Int} {x : Rat} : evR (sumL p q 1) x = evR p x + evR q x := by
  rw [ev_sum]
  have : ((1 : Int) : Rat) = 1 := rfl
  rw [this, Rat.one_mul]
def mulP : List Int → List Int → List Int
  | [], _ => []
  | a :: p, q => addP (q.map fun y => a * y) (0 :: mulP p q)
theorem conv_cons {a : Int} {p q : List Int} {k : Nat} : conv (a :: p) q k = a * coef q k + (match k with | 0 => 0 | k + 1 => conv p q k) := by
  rw [conv_def, Sg_shift]
  cases k with
  | zero => simp
  | succ k =>
    show _ = a * coef q (k + 1) + conv p q k
    rw [conv_def]
    congr 1
    refine Sg_congr fun j hj => ?_
    rw [coef_cs, show k + 1 - (j + 1) = k - j by omega]
theorem coef_mulP {p q : List Int} {k : Nat} : coef (mulP p q) k = conv p q k := by
  induction p generalizing k with
  | nil =>
    rw [conv_def]
    exact (Sg_zero fun j _ => by simp).symm
  | cons a p ih =>
    show coef (addP (q.map fun y => a * y) (0 :: mulP p q)) k = _
    rw [coef_addP, coef_map (Int.mul_zero a), conv_cons]
    cases k with
    | zero => rfl
    | succ k => rw [coef_cs, ih]
theorem ev_mulP {p q : List Int} {x : Rat} : evR (mulP p q) x = evR p x * evR q x := by
  induction p with
  | nil => simp [mulP]
  | cons a p ih =>
    show evR (addP (q.map fun y => a * y) (0 :: mulP p q)) x = _
    rw [ev_addP, ev_map, ev_cons, ev_cons, ih]
    have : ((0 : Int) : Rat) = 0 := rfl
    rw [this]
    grind
@[simp] theorem ev_mul {p q : List Int} {x : Rat} : evR (mulL p q) x = evR p x * evR q x := by
  rw [← ev_mulP]
  exact ev_ext fun k => by rw [coef_mulL, coef_mulP]
/-! another polynomial put in; the letter moved -/
def putL : List Int → List Int → List Int
  | [], _ => []
  | c :: t, q => sumL (mulL (putL t q) q) (trim [c]) 1
theorem ev_put {p q : List Int} {x : Rat} : evR (putL p q) x = evR p (evR q x) := by
  induction p with
  | nil => rfl
  | cons c t ih =>
    show evR (sumL (mulL (putL t q) q) (trim [c]) 1) x = _
    rw [ev_sum1, ev_mul, ev_trim, ev_cons, ev_cons, ih, ev_nil]
    grind
def movL (a b : Int) : List Int → List Int
  | [] => []
  | c :: t => sumL (mulL (movL a b t) (trim [a, b])) (trim [c * b ^ t.length]) 1
theorem ev_mov {a b : Int} {p : List Int} {x y : Rat} (h : (a : Rat) + (b : Rat) * x = (b : Rat) * y) : (b : Rat) * evR (movL a b p) x = ((b ^ p.length : Int) : Rat) * evR p y := by
  induction p with
  | nil => simp [movL]
  | cons c t ih =>
    show (b : Rat) * evR (sumL (mulL (movL a b t) (trim [a, b])) (trim [c * b ^ t.length]) 1) x = _
    rw [ev_sum1, ev_mul, ev_trim, ev_trim, ev_cons, ev_cons, ev_cons, ev_cons, ev_nil, List.length_cons, Int.pow_succ, Rat.intCast_mul, Rat.intCast_mul]
    grind
theorem conv_pair {p : List Int} {a b : Int} {k : Nat} : conv p (trim [a, b]) k = a * coef p k + (match k with | 0 => 0 | k + 1 => b * coef p k) := by
  rw [conv_congr (p' := p) (q' := [a, b]) (fun _ => rfl) (fun j => coef_trim), ← coef_mulL]
  have : conv p [a, b] k = conv [a, b] p k := by
    rw [conv_def, conv_def, Sg_rev]
    refine Sg_congr fun j hj => ?_
    rw [show k - (k + 1 - 1 - j) = j by omega, show k + 1 - 1 - j = k - j by omega, Int.mul_comm]
  rw [coef_mulL, this, conv_cons]
  congr 1
  cases k with
  | zero => rfl
  | succ k =>
    show conv [b] p k = _
    rw [conv_cons]
    cases k with
    | zero => simp
    | succ k =>
      show b * coef p (k + 1) + conv [] p k = _
      have : conv [] p k = 0 := by
        rw [conv_def]
        exact Sg_zero fun j _ => by simp
      rw [this, Int.add_zero]
theorem mov_top {a b : Int} {p : List Int} : (∀ k, p.length ≤ k → coef (movL a b p) k = 0) ∧ ∀ k, k + 1 = p.length → coef (movL a b p) k = coef p k * b ^ k := by
  induction p with
  | nil => exact ⟨fun k _ => by simp [movL], fun k h => by cases h⟩
  | cons c t ih =>
    have e : ∀ k, coef (movL a b (c :: t)) k = a * coef (movL a b t) k + (match k with | 0 => 0 | k + 1 => b * coef (movL a b t) k) + (if k = 0 then c * b ^ t.length else 0) := fun k => by
      show coef (sumL (mulL (movL a b t) (trim [a, b])) (trim [c * b ^ t.length]) 1) k = _
      rw [coef_sumL, coef_mulL, coef_trim, conv_pair, Int.one_mul]
      congr 1
      cases k with
      | zero => rfl
      | succ k => simp
    refine ⟨fun k hk => ?_, fun k hk => ?_⟩
    · rw [List.length_cons] at hk
      obtain ⟨j, rfl⟩ : ∃ j, k = j + 1 := ⟨k - 1, by omega⟩
      rw [e, ih.1 (j + 1) (by omega), if_neg (by omega)]
      show a * 0 + b * coef (movL a b t) j + 0 = 0
      rw [ih.1 j (by omega)]
      simp
    · rw [List.length_cons] at hk
      cases k with
      | zero =>
        have : t = [] := List.eq_nil_of_length_eq_zero (by omega)
        subst this
        rw [e]
        simp [movL]
      | succ j =>
        rw [e, ih.1 (j + 1) (by omega), if_neg (by omega)]
        show a * 0 + b * coef (movL a b t) j + 0 = coef t j * b ^ (j + 1)
        rw [ih.2 j (by omega), Int.pow_succ]
        grind
theorem trim_length {p : List Int} {n : Nat} (h : ∀ k, n ≤ k → coef p k = 0) : (trim p).length ≤ n := by
  by_cases g : (trim p).length ≤ n
  · exact g
  · exfalso
    have ht := trim_tr p
    rcases ht with e | e
    · rw [e] at g; simp at g
    · rw [List.getLast?_eq_getElem?, List.getElem?_eq_getElem (by omega)] at e
      refine e ?_
      congr 1
      rw [← coef_lt, coef_trim]
      exact h _ (by omega)
theorem mov_tr {a b : Int} {p : List Int} : Tr (movL a b p) := by
  cases p with
  | nil => exact .inl rfl
  | cons c t => exact trim_tr _
theorem tr_last {p : List Int} (h : Tr p) {n : Nat} (hn : p.length = n + 1) : coef p n ≠ 0 := by
  rcases h with h | h
  · rw [h] at hn; cases hn
  · intro e
    refine h ?_
    rw [List.getLast?_eq_getElem?, hn, Nat.add_sub_cancel, List.getElem?_eq_getElem (by omega), ← coef_lt, e]
theorem len_ge {p : List Int} {n : Nat} (h : coef p n ≠ 0) : n + 1 ≤ p.length := by
  by_cases g : n < p.length
  · exact g
  · exact absurd (coef_ge (by omega)) h
theorem mov_len {a b : Int} {p : List Int} (hb : b ≠ 0) (hp : Tr p) : (movL a b p).length = p.length := by
  cases hn : p.length with
  | zero => rw [List.eq_nil_of_length_eq_zero hn]; rfl
  | succ n =>
    have t := mov_top (a := a) (b := b) (p := p)
    have l1 := len_ge (p := movL a b p) (n := n) (by
      rw [t.2 n hn.symm]
      exact Int.mul_ne_zero (tr_last hp hn) (Int.pow_ne_zero hb))
    have l2 : (trim (movL a b p)).length ≤ n + 1 := trim_length fun k hk => t.1 k (by omega)
    rw [tr_trim mov_tr] at l2
    omega
end Dn

set_option Elab.async false
set_option linter.all false
set_option maxRecDepth 100000
set_option maxHeartbeats 4000000
set_option exponentiation.threshold 100000
/-! letters replaced: specs and walks -/
namespace Dn
open PySem PySem.Spec PyProof.Rows L2
def contL (p : List Int) : Nat := p.foldl (fun g x => Int.gcd g x) 0
def lowL (p : List Int) : List Int := if contL p < 2 then p else p.map fun x => x.fdiv (contL p)
def low2L (p : List Int) : List Int := if 0 < contL p then p.map fun x => x.fdiv (contL p) else []
def turnL (p : List Int) : List Int := mkL p.length fun k => coef p k * (1 - 2 * ((k % 2 : Nat) : Int))
def opL (p : List Int) (n : Nat) : List Int := trim (mkL ((((p.length : Int) - 1) * n + 1).toNat) fun k => if k % n = 0 then coef p (k / n) else 0)
def sp_content : Spec := .det (List Int) (fun x => [lsD x]) (fun _ => True) fun x => .sh (.int (contL x))
def sp__law_content : Spec := .det (List Int) (fun x => [lsD x]) (fun x => ∀ y ∈ x, Sz 9000 y) fun x => .sh (.int (contL x))
def sp_lowered : Spec := .det (List Int) (fun x => [lsD x]) (fun x => x.length ≤ 1000000 ∧ ∀ y ∈ x, Sz 9000 y) fun x => .fr (iL (lowL x))
def sp__law_low : Spec := .det (List Int) (fun x => [lsD x]) (fun x => x.length ≤ 1000000 ∧ ∀ y ∈ x, Sz 9000 y) fun x => .fr (iL (low2L x))
def sp_put_in : Spec := .det (List Int × List Int) (fun x => [lsD x.1, lsD x.2]) (fun x => (x.1.length + 1) * (x.2.length + 2) ≤ 400000 ∧ ∀ y ∈ x.2, y.natAbs < 2 ^ 64) fun x => .sh (lsD (putL x.1 x.2))
def MV (s t : Nat) (p : List Int) (r : Rat) : Prop := (∀ x ∈ p, Sz t x) ∧ RSz s r ∧ t ≤ 63 ∧ s ≤ 63 ∧ t + (s + 2) * (p.length + 1) ≤ 8000
def sp_moved : Spec := ⟨List Int × Rat × Nat × Nat, fun x => [lsD x.1, frD x.2.1], fun x => MV x.2.2.1 x.2.2.2 x.1 x.2.1, fun x r => r = .fr (iL (lowL (movL x.2.1.num x.2.1.den x.1)))⟩
def sp_turned : Spec := .det (List Int) (fun x => [lsD x]) (fun x => x.length ≤ 1000000) fun x => .fr (iL (turnL x))
def sp_backward : Spec := .det (List Int) (fun x => [lsD x]) (fun _ => True) fun x => .fr (iL (trim x.reverse))
def sp_of_power : Spec := .det (List Int × Nat) (fun x => [lsD x.1, .int x.2]) (fun x => 1 ≤ x.2 ∧ x.2 ≤ 1000 ∧ x.1.length ≤ 900) fun x => .fr (iL (opL x.1 x.2))
def sp__law_value : Spec := ⟨List Int × Rat × Nat × Nat, fun x => [lsD x.1, frD x.2.1], fun x => PV x.2.2.1 x.2.2.2 x.1 x.2.1, fun x r => r = .sh (frD (evR x.1 x.2.1))⟩
section
variable {Q : Rv → Prop} {f : Fx Q}
@[simp ↓] theorem c_content {a : List Int} : sp_content.Run [lsD a] Q f = Q (.sh (.int (contL a))) := (Spec.det_run (A := List Int) (args := fun x => [lsD x]) (fun x y h => inj_l h) a).trans (true_and _)
@[simp ↓] theorem c__law_content {a : List Int} : sp__law_content.Run [lsD a] Q f = ((∀ y ∈ a, Sz 9000 y) ∧ Q (.sh (.int (contL a)))) := Spec.det_run (A := List Int) (args := fun x => [lsD x]) (fun x y h => inj_l h) a
@[simp ↓] theorem c_lowered {a : List Int} : sp_lowered.Run [lsD a] Q f = ((a.length ≤ 1000000 ∧ ∀ y ∈ a, Sz 9000 y) ∧ Q (.fr (iL (lowL a)))) := Spec.det_run (A := List Int) (args := fun x => [lsD x]) (fun x y h => inj_l h) a
@[simp ↓] theorem c__law_low {a : List Int} : sp__law_low.Run [lsD a] Q f = ((a.length ≤ 1000000 ∧ ∀ y ∈ a, Sz 9000 y) ∧ Q (.fr (iL (low2L a)))) := Spec.det_run (A := List Int) (args := fun x => [lsD x]) (fun x y h => inj_l h) a
@[simp ↓] theorem c_put_in {a b : List Int} : sp_put_in.Run [lsD a, lsD b] Q f = (((a.length + 1) * (b.length + 2) ≤ 400000 ∧ ∀ y ∈ b, y.natAbs < 2 ^ 64) ∧ Q (.sh (lsD (putL a b)))) := Spec.det_run (fun _ _ => inj_ll) (a, b)
theorem c_moved {p : List Int} {r : Rat} {s t : Nat} (h : MV s t p r) (q : Q (.fr (iL (lowL (movL r.num r.den p))))) : sp_moved.Run [lsD p, frD r] Q f :=
  Spec.go sp_moved (p, r, s, t) rfl h fun _ hr => by cases hr; exact q
@[simp ↓] theorem c_turned {a : List Int} : sp_turned.Run [lsD a] Q f = (a.length ≤ 1000000 ∧ Q (.fr (iL (turnL a)))) := Spec.det_run (A := List Int) (args := fun x => [lsD x]) (fun x y h => inj_l h) a
@[simp ↓] theorem c_backward {a : List Int} : sp_backward.Run [lsD a] Q f = Q (.fr (iL (trim a.reverse))) := (Spec.det_run (A := List Int) (args := fun x => [lsD x]) (fun x y h => inj_l h) a).trans (true_and _)
@[simp ↓] theorem c_of_power {p : List Int} {n : Nat} : sp_of_power.Run [lsD p, .int n] Q f = ((1 ≤ n ∧ n ≤ 1000 ∧ p.length ≤ 900) ∧ Q (.fr (iL (opL p n)))) := Spec.det_run (fun x y h => by
  obtain ⟨a, c⟩ := x
  obtain ⟨a', c'⟩ := y
  simp only [List.cons.injEq, D.lst.injEq, iL_eq, D.int.injEq, and_true] at h
  rw [h.1, Int.ofNat_inj.mp h.2]) (p, n)
theorem c__law_value {p : List Int} {r : Rat} {s t : Nat} (h : PV s t p r) (q : Q (.sh (frD (evR p r)))) : sp__law_value.Run [lsD p, frD r] Q f :=
  Spec.go sp__law_value (p, r, s, t) rfl h fun _ hr => by cases hr; exact q
end
def d_content : DS :=
  (sSeq (sSet 1 (eC (.int 0)))
  (sSeq (sFor (iSeq (eVar 0)) (gN 2) (sSet 1 (eCall sp_common_divisor (aCons (eVar 1) (aCons (eVar 2) aNil)))))
  (sRet (eVar 1))))

def d__law_content : DS :=
  (sSeq (sSet 1 (eC (.int 0)))
  (sSeq (sFor (iSeq (eVar 0)) (gN 2) (sSet 1 (eCall sp__law_divisor (aCons (eVar 1) (aCons (eVar 2) aNil)))))
  (sRet (eVar 1))))

def d_lowered : DS :=
  (sSeq (sSet 1 (eCall sp_content (aCons (eVar 0) aNil)))
  (sSeq (sIf (tB (eOp ltR (eVar 1) (eC (.int 2)))) (sRet (eOp1 listR (eVar 0))) sNext)
  (sRet (eLc (iSeq (eVar 0)) (CT.one 2) tYesD (eOp fdivR (eVar 2) (eVar 1)) [2]))))

def d__law_low : DS :=
  (sSeq (sSet 1 (eCall sp__law_content (aCons (eVar 0) aNil)))
  (sRet (eIf (tB (eOp gtR (eVar 1) (eC (.int 0)))) (eLc (iSeq (eVar 0)) (CT.one 2) tYesD (eOp1 intR (eOp fdivR (eVar 2) (eVar 1))) [2]) (eLst aNil))))

def d_put_in : DS :=
  (sSeq (sSet 2 (eLst aNil))
  (sSeq (sFor (iListArg List.reverse (aCons (eVar 0) aNil)) (gN 3) (sSet 2 (eCall sp_added (aCons (eCall sp_ptimes (aCons (eVar 2) (aCons (eVar 1) aNil))) (aCons (eCall sp_trimmed (aCons (eLst (aCons (eVar 3) aNil)) aNil)) aNil)))))
  (sRet (eVar 2))))

def d_moved : DS :=
  (sSeq (sSet 2 (eLst aNil))
  (sSeq (sSet 3 (eC (.int 1)))
  (sSeq (sFor (iListArg List.reverse (aCons (eVar 0) aNil)) (gN 4) (sSeq (sSet 2 (eCall sp_added (aCons (eCall sp_ptimes (aCons (eVar 2) (aCons (eCall sp_trimmed (aCons (eLst (aCons (eOp ixR (eVar 1) (eC (.int 0))) (aCons (eOp ixR (eVar 1) (eC (.int 1))) aNil))) aNil)) aNil))) (aCons (eCall sp_trimmed (aCons (eLst (aCons (eOp mulR (eVar 4) (eVar 3)) aNil)) aNil)) aNil))))
  (sAug 3 imulR (eOp ixR (eVar 1) (eC (.int 1))))))
  (sRet (eCall sp_lowered (aCons (eVar 2) aNil))))))

def d_turned : DS :=
  (sRet (eLc (iListArg enumD (aCons (eVar 0) aNil)) (CT.two 1 2) tYesD (eIf (tB (eOp eqR (eOp andR (eVar 1) (eC (.int 1))) (eC (.int 0)))) (eVar 2) (eOp1 negR (eVar 2))) [1, 2]))

def d_backward : DS :=
  (sRet (eCall sp_trimmed (aCons (eOp1 revR (eVar 0)) aNil)))

def d_of_power : DS :=
  (sSeq (sOwn 2 (eOp mulR (eLst (aCons (eC (.int 0)) aNil)) (eOp max2R (eC (.int 0)) (eOp addR (eOp mulR (eOp subR (eOp1 lenR (eVar 0)) (eC (.int 1))) (eVar 1)) (eC (.int 1))))))
  (sSeq (sFor (iListArg enumD (aCons (eVar 0) aNil)) (gTupD 2 (gConsD (gN 3) (gConsD (gN 4) gNilD))) (sStore 2 (eVar 4) (eOp mulR (eVar 3) (eVar 1))))
  (sRet (eCall sp_trimmed (aCons (eVar 2) aNil)))))

def d__law_value : DS :=
  (sSeq (sSet 2 (eTup (aCons (eC (.int 0)) (aCons (eC (.int 1)) aNil))))
  (sSeq (sFor (iListArg List.reverse (aCons (eVar 0) aNil)) (gN 3) (sSet 2 (eCall sp__law_ratio (aCons (eOp addR (eOp mulR (eOp ixR (eVar 2) (eC (.int 0))) (eOp ixR (eVar 1) (eC (.int 0)))) (eOp mulR (eOp mulR (eVar 3) (eOp ixR (eVar 2) (eC (.int 1)))) (eOp ixR (eVar 1) (eC (.int 1))))) (aCons (eOp mulR (eOp ixR (eVar 2) (eC (.int 1))) (eOp ixR (eVar 1) (eC (.int 1)))) aNil)))))
  (sRet (eVar 2))))

theorem divInt_le {p : Int} {q : Int} (hq : 0 < q) : ((Rat.divInt p q).den : Int) ≤ q ∧ (Rat.divInt p q).num.natAbs ≤ p.natAbs := by
  obtain ⟨n, rfl⟩ := Int.eq_ofNat_of_zero_le (Int.le_of_lt hq)
  rw [Rat.divInt_ofNat]
  refine ⟨?_, ?_⟩
  · rw [Rat.den_mkRat, if_neg (by omega)]
    exact_mod_cast Nat.div_le_self _ _
  · rw [Rat.num_mkRat, if_neg (by omega), Int.natAbs_ediv_of_dvd]
    · exact Nat.div_le_self _ _
    · exact Int.ofNat_dvd_left.mpr (Nat.gcd_dvd_right _ _)
theorem den_pos' (r : Rat) : (0 : Int) < r.den := by have := r.den_nz; omega
theorem max0i {x : Int} : (if 0 < x then x else 0) = (x.toNat : Int) := by omega
theorem mem_all {p : List Int} {P : Int → Prop} (h : ∀ k, P (coef p k)) : ∀ x ∈ p, P x := fun x hx => by
  obtain ⟨k, hk, rfl⟩ := List.getElem_of_mem hx
  have := h k
  rwa [coef_lt hk] at this
theorem cont_take {p : List Int} {m : Nat} (h : m < p.length) : contL (p.take (m + 1)) = Int.gcd (contL (p.take m)) (coef p m) := by
  unfold contL
  rw [List.take_succ_eq_append_getElem h, List.foldl_append, coef_lt h]
  rfl
theorem k_content : sp_content.Ok 3 d_content := by
  intro (p : List Int) _
  simp [entry, sp_content, Spec.det]
  simp -dsimp [d_content]
  refine forL (ns := p) (fun Q => by simp) (fun m e => ∃ s, e = [.sh (lsD p), .sh (.int (contL (p.take m))), s]) ⟨_, rfl⟩ ?_ ?_
  · rintro m hm e ⟨s, rfl⟩
    simp -dsimp
    rw [← cont_take hm]
    exact hold ⟨_, rfl⟩
  · rintro e ⟨s, rfl⟩
    simp -dsimp
theorem k__law_content : sp__law_content.Ok 3 d__law_content := by
  intro (p : List Int) (h : ∀ y ∈ p, Sz 9000 y)
  simp [entry, sp__law_content, Spec.det]
  simp -dsimp [d__law_content]
  refine forL (ns := p) (fun Q => by simp) (fun m e => ∃ s, e = [.sh (lsD p), .sh (.int (contL (p.take m))), s]) ⟨_, rfl⟩ ?_ ?_
  · rintro m hm e ⟨s, rfl⟩
    have := h _ (mem_coef hm)
    simp -dsimp [this]
    rw [← cont_take hm]
    exact hold ⟨_, rfl⟩
  · rintro e ⟨s, rfl⟩
    simp -dsimp
theorem gcd_sz {g : Nat} {x : Int} {n : Nat} (hg : g < 2 ^ n) (hx : Sz n x) : Int.gcd g x < 2 ^ n := by
  by_cases z : g = 0
  · subst z
    rw [show ((0 : Nat) : Int) = 0 from rfl, Int.gcd_zero_left]
    exact hx
  · have := Nat.le_of_dvd (by omega) (Int.gcd_dvd_natAbs_left (g : Int) x)
    simp at this
    omega
theorem fold_sz {p : List Int} {n g : Nat} (hg : g < 2 ^ n) (h : ∀ x ∈ p, Sz n x) : p.foldl (fun g x => Int.gcd g x) g < 2 ^ n := by
  induction p generalizing g with
  | nil => exact hg
  | cons a t ih => exact ih (gcd_sz hg (h a List.mem_cons_self)) fun x hx => h x (List.mem_cons_of_mem _ hx)
theorem cont_sz {p : List Int} {n : Nat} (h : ∀ x ∈ p, Sz n x) : contL p < 2 ^ n := fold_sz (Nat.two_pow_pos _) h
theorem k_lowered : sp_lowered.Ok 3 d_lowered := by
  rintro (p : List Int) ⟨h1, h2⟩
  have h1 : p.length ≤ 1000000 := h1
  have h2 : ∀ y ∈ p, Sz 9000 y := h2
  have cz := cont_sz h2
  simp [entry, sp_lowered, Spec.det]
  by_cases g : contL p < 2
  · have g' : (contL p : Int) < 2 := by omega
    simp -dsimp [d_lowered, g', lowL, g]
  · have g' : ¬ (contL p : Int) < 2 := by omega
    have dk : ∀ x, DivOk x (contL p : Int) := fun x => Sz.divOk (n := 9000) cz (by decide) (by omega)
    simp -dsimp [d_lowered, g']
    refine lcL (iL p) (p.map fun x => x.fdiv (contL p)) (by simp) (by simpa using h1) (fun Q => by simp) (by simp) (fun j hj => ?_) ?_
    · have hj : j < p.length := by simpa using hj
      rw [iL_get hj, coef_map (f := fun x => x.fdiv (contL p)) (Int.zero_fdiv _), coef_lt hj]
      simp -dsimp [dk]
    · simp -dsimp [lowL, g]
theorem k__law_low : sp__law_low.Ok 3 d__law_low := by
  rintro (p : List Int) ⟨h1, h2⟩
  have h1 : p.length ≤ 1000000 := h1
  have h2 : ∀ y ∈ p, Sz 9000 y := h2
  have cz := cont_sz h2
  simp [entry, sp__law_low, Spec.det]
  by_cases g : 0 < contL p
  · have g' : 0 < (contL p : Int) := by omega
    have dk : ∀ x, DivOk x (contL p : Int) := fun x => Sz.divOk (n := 9000) cz (by decide) (by omega)
    simp -dsimp [d__law_low, g', g]
    refine ⟨h2, ?_⟩
    refine lcL (iL p) (p.map fun x => x.fdiv (contL p)) (by simp) (by simpa using h1) (fun Q => by simp) (by simp) (fun j hj => ?_) ?_
    · have hj : j < p.length := by simpa using hj
      rw [iL_get hj, coef_map (f := fun x => x.fdiv (contL p)) (Int.zero_fdiv _), coef_lt hj]
      simp -dsimp [dk]
    · simp -dsimp [low2L, g]
  · have g' : ¬ 0 < (contL p : Int) := by omega
    simp -dsimp [d__law_low, g', low2L, g]
    exact h2
theorem sum_len (p q : List Int) (c : Int) : (sumL p q c).length ≤ max p.length q.length := by
  have := trim_len (mkL (max p.length q.length) fun k => coef p k + c * coef q k)
  rw [mkL_len] at this
  exact this
theorem put_len (p q : List Int) : (putL p q).length ≤ (p.length + 1) * (q.length + 1) := by
  induction p with
  | nil => exact Nat.zero_le _
  | cons c t ih =>
    have a := sum_len (mulL (putL t q) q) (trim [c]) 1
    have b := mul_len (putL t q) q
    have d := trim_len [c]
    have e : [c].length = 1 := rfl
    have f : (t.length + 1 + 1) * (q.length + 1) = (t.length + 1) * (q.length + 1) + (q.length + 1) := by rw [Nat.add_mul (t.length + 1), Nat.one_mul]
    show (sumL (mulL (putL t q) q) (trim [c]) 1).length ≤ (t.length + 1 + 1) * (q.length + 1)
    omega
theorem drop_rev {p : List Int} {m : Nat} (hm : m < p.length) : p.drop (p.length - (m + 1)) = coef p.reverse m :: p.drop (p.length - m) := by
  rw [List.drop_eq_getElem_cons (by omega), show p.length - (m + 1) + 1 = p.length - m by omega]
  congr 1
  rw [coef_lt (by simpa using hm), List.getElem_reverse]
  congr 1
  omega
theorem k_put_in : sp_put_in.Ok 4 d_put_in := by
  rintro ⟨p, q⟩ ⟨h1, h2⟩
  have h1 : (p.length + 1) * (q.length + 2) ≤ 400000 := h1
  have h2 : ∀ y ∈ q, y.natAbs < 2 ^ 64 := h2
  simp [entry, sp_put_in, Spec.det]
  simp -dsimp [d_put_in]
  have z : D.lst [] = lsD (putL (p.drop (p.length - 0)) q) := by rw [Nat.sub_zero, List.drop_length]; rfl
  rw [z]
  refine forL (ns := p.reverse) (fun Q => by simp) (fun m e => ∃ s, e = [.sh (lsD p), .sh (lsD q), .sh (lsD (putL (p.drop (p.length - m)) q)), s]) ⟨_, rfl⟩ ?_ ?_
  · rintro m hm e ⟨s, rfl⟩
    have hm : m < p.length := by simpa using hm
    have one : D.lst [D.int (coef p.reverse m)] = lsD [coef p.reverse m] := rfl
    have l0 := put_len (p.drop (p.length - m)) q
    rw [List.length_drop] at l0
    have l1 : (p.length - (p.length - m) + 1) * (q.length + 1) ≤ (p.length + 1) * (q.length + 1) := Nat.mul_le_mul_right _ (by omega)
    have l2 : (p.length + 1) * (q.length + 2) = (p.length + 1) * (q.length + 1) + (p.length + 1) := by rw [← Nat.mul_succ]
    have l3 : (p.length + 1) * (q.length + 2) ≥ 1 * (q.length + 2) := Nat.mul_le_mul_right _ (by omega)
    have a1 : Lim (putL (p.drop (p.length - m)) q) q := by
      show (putL (p.drop (p.length - m)) q).length + q.length ≤ 1000000
      omega
    have a2 : MulOk (putL (p.drop (p.length - m)) q) q := fun x _ y hy => mulOkR (h2 y hy)
    have a3 : Lim (mulL (putL (p.drop (p.length - m)) q) q) (trim [coef p.reverse m]) := by
      have b := mul_len (putL (p.drop (p.length - m)) q) q
      have d := trim_len [coef p.reverse m]
      have e : [coef p.reverse m].length = 1 := rfl
      show (mulL (putL (p.drop (p.length - m)) q) q).length + (trim [coef p.reverse m]).length ≤ 1000000
      omega
    simp -dsimp [one, a1, a2, a3]
    have e : sumL (mulL (putL (p.drop (p.length - m)) q) q) (trim [coef p.reverse m]) 1 = putL (p.drop (p.length - (m + 1))) q := by
      rw [drop_rev hm]
      rfl
    rw [e]
    exact hold ⟨_, rfl⟩
  · rintro e ⟨s, rfl⟩
    simp -dsimp
theorem k_turned : sp_turned.Ok 3 d_turned := by
  intro (p : List Int) (h : p.length ≤ 1000000)
  simp [entry, sp_turned, Spec.det]
  simp -dsimp [d_turned]
  refine lcL (enumD (iL p)) (turnL p) (by simp [enumD_len, turnL]) (by simpa [turnL] using h) (fun Q => by simp) (by simp) (fun k hk => ?_) ?_
  · have hk : k < p.length := by simpa [enumD_len] using hk
    have e : (enumD (iL p))[k]'(by simpa [enumD_len] using hk) = .tup [.int k, .int (coef p k)] := by
      refine Option.some.inj ?_
      rw [← List.getElem?_eq_getElem, enumD_get, iL_at, at_n' hk]
      rfl
    have b1 : Builtin.bitAnd (k : Int) 1 = ((k % 2 : Nat) : Int) := by rw [bitAnd_m1]; rfl
    rw [e]
    unfold turnL
    rw [coef_mkL, if_pos hk]
    by_cases g : k % 2 = 0
    · simp -dsimp [b1, g]
    · have g' : k % 2 = 1 := by omega
      simp -dsimp [b1, g']
  · simp -dsimp
theorem k_backward : sp_backward.Ok 1 d_backward := by
  intro (p : List Int) _
  simp [entry, sp_backward, Spec.det]
  simp -dsimp [d_backward]
theorem k__law_value : sp__law_value.Ok 4 d__law_value := by
  rintro ⟨p, r, s, t⟩ ⟨h1, h2, h3⟩
  have h1 : ∀ x ∈ p, Sz t x := h1
  have h2 : RSz s r := h2
  have h3 : t + (s + 1) * (p.length + 1) ≤ 8000 := h3
  simp [entry, sp__law_value]
  simp -dsimp [d__law_value]
  have z : D.tup [.int 0, .int 1] = frD (evR (p.drop (p.length - 0)) r) := by rw [Nat.sub_zero, List.drop_length]; rfl
  rw [z]
  refine forL (ns := p.reverse) (fun Q => by simp) (fun m e => ∃ x s4, e = [.sh (lsD p), .sh (frD r), .sh (frD x), s4] ∧ x = evR (p.drop (p.length - m)) r ∧ x.den ≤ 2 ^ (s * m) ∧ x.num.natAbs < 2 ^ (t + (s + 1) * m)) ⟨_, _, rfl, rfl, by simp, by simp [Nat.two_pow_pos]⟩ ?_ ?_
  · rintro m hm e ⟨x, s4, rfl, hx, hd, hn⟩
    have hm : m < p.length := by simpa using hm
    have cz : Sz t (coef p.reverse m) := h1 _ (by have := mem_coef (p := p.reverse) (k := m) (by simpa using hm); simpa using this)
    have le1 : (s + 1) * (m + 1) ≤ (s + 1) * p.length := Nat.mul_le_mul_left _ (by omega)
    have le2 : (s + 1) * m = s * m + m := by rw [Nat.add_mul, Nat.one_mul]
    have le3 : (s + 1) * (m + 1) = (s + 1) * m + (s + 1) := Nat.mul_succ _ _
    have le4 : (s + 1) * (p.length + 1) = (s + 1) * p.length + (s + 1) := Nat.mul_succ _ _
    have xd : Sz (s * m + 1) (x.den : Int) := by
      show x.den < 2 ^ (s * m + 1)
      rw [Nat.pow_succ]
      have := Nat.two_pow_pos (s * m)
      omega
    have xn : Sz (t + (s + 1) * m) x.num := hn
    have m1 : IntMulOk x.num r.num := xn.mulOk h2.num (by omega)
    have m2 : IntMulOk (coef p.reverse m) (x.den : Int) := cz.mulOk xd (by omega)
    have m3 : IntMulOk (coef p.reverse m * (x.den : Int)) (r.den : Int) := (cz.mul xd).mulOk h2.den (by omega)
    have m4 : IntMulOk (x.den : Int) (r.den : Int) := xd.mulOk h2.den (by omega)
    have d9 : Sz 9000 ((x.den : Int) * (r.den : Int)) := (xd.mul h2.den).up (by omega)
    have d0 : (x.den : Int) * (r.den : Int) ≠ 0 := Int.mul_ne_zero (den_ne x) (den_ne r)
    have d0' : ¬ (x.den = 0 ∨ r.den = 0) := by
      have := x.den_nz
      have := r.den_nz
      omega
    simp -dsimp [m1, m2, m3, m4, d9]
    refine ⟨⟨x.den_nz, r.den_nz⟩, ?_⟩
    have step : Rat.divInt (x.num * r.num + coef p.reverse m * (x.den : Int) * (r.den : Int)) ((x.den : Int) * (r.den : Int)) = evR (p.drop (p.length - (m + 1))) r := by
      rw [drop_rev hm, ev_cons, ← hx]
      have a1 := mul_divInt x r
      have a2 : Rat.divInt (coef p.reverse m) 1 = ((coef p.reverse m : Int) : Rat) := Rat.num_divInt_den ((coef p.reverse m : Int) : Rat)
      rw [Rat.mul_comm r x, ← a1, ← a2, Rat.divInt_add_divInt _ _ (by decide) d0]
      congr 1
      · grind
      · grind
    refine hold ⟨_, _, rfl, step, ?_, ?_⟩
    · have d := divInt_le (p := x.num * r.num + coef p.reverse m * (x.den : Int) * (r.den : Int)) (q := (x.den : Int) * (r.den : Int)) (Int.mul_pos (den_pos' x) (den_pos' r))
      have e : x.den * r.den ≤ 2 ^ (s * m) * 2 ^ s := Nat.mul_le_mul hd (Nat.le_of_lt h2.2)
      rw [← Nat.pow_add, show s * m + s = s * (m + 1) from (Nat.mul_succ s m).symm] at e
      have e' : (x.den : Int) * (r.den : Int) = ((x.den * r.den : Nat) : Int) := rfl
      omega
    · have d := divInt_le (p := x.num * r.num + coef p.reverse m * (x.den : Int) * (r.den : Int)) (q := (x.den : Int) * (r.den : Int)) (Int.mul_pos (den_pos' x) (den_pos' r))
      have z1 : Sz (t + (s + 1) * m + s) (x.num * r.num) := xn.mul h2.num
      have z2 : Sz (t + (s + 1) * m + s) (coef p.reverse m * (x.den : Int) * (r.den : Int)) := by
        have f : (coef p.reverse m * (x.den : Int) * (r.den : Int)).natAbs = (coef p.reverse m).natAbs * (x.den * r.den) := by
          rw [Int.natAbs_mul, Int.natAbs_mul, Nat.mul_assoc]
          rfl
        have e : x.den * r.den ≤ 2 ^ (s * m) * 2 ^ s := Nat.mul_le_mul hd (Nat.le_of_lt h2.2)
        have e2 : 0 < x.den * r.den := Nat.mul_pos (Nat.pos_of_ne_zero x.den_nz) (Nat.pos_of_ne_zero r.den_nz)
        have e3 : (coef p.reverse m).natAbs * (x.den * r.den) < 2 ^ t * (x.den * r.den) := Nat.mul_lt_mul_of_pos_right cz e2
        have e4 : 2 ^ t * (x.den * r.den) ≤ 2 ^ t * (2 ^ (s * m) * 2 ^ s) := Nat.mul_le_mul_left _ e
        rw [← Nat.pow_add, ← Nat.pow_add] at e4
        have e5 : 2 ^ (t + (s * m + s)) ≤ 2 ^ (t + (s + 1) * m + s) := Nat.pow_le_pow_right (by decide) (by omega)
        show (coef p.reverse m * (x.den : Int) * (r.den : Int)).natAbs < _
        omega
      have z3 := Sz.add z1 z2
      have e6 : t + (s + 1) * m + s + 1 = t + (s + 1) * (m + 1) := by omega
      rw [e6] at z3
      exact Nat.lt_of_le_of_lt d.2 z3
  · rintro e ⟨x, s4, rfl, hx, hd, hn⟩
    simp -dsimp
    rw [hx, List.length_reverse, Nat.sub_self]
    rfl
theorem conv_pairB {p : List Int} {a b : Int} {B s : Nat} (hp : ∀ k, (coef p k).natAbs ≤ B) (ha : a.natAbs ≤ 2 ^ s) (hb : b.natAbs ≤ 2 ^ s) (k : Nat) : (conv p (trim [a, b]) k).natAbs ≤ 2 * (2 ^ s * B) := by
  rw [conv_pair]
  have h1 : (a * coef p k).natAbs ≤ 2 ^ s * B := by rw [Int.natAbs_mul]; exact Nat.mul_le_mul ha (hp k)
  cases k with
  | zero =>
    show (a * coef p 0 + 0).natAbs ≤ _
    omega
  | succ k =>
    have h2 : (b * coef p k).natAbs ≤ 2 ^ s * B := by rw [Int.natAbs_mul]; exact Nat.mul_le_mul hb (hp k)
    show (a * coef p (k + 1) + b * coef p k).natAbs ≤ _
    omega
theorem mov_size {p : List Int} {a b : Int} {s t : Nat} (hp : ∀ x ∈ p, Sz t x) (ha : a.natAbs ≤ 2 ^ s) (hb : b.natAbs ≤ 2 ^ s) (k : Nat) : (coef (movL a b p) k).natAbs ≤ 2 ^ (t + (s + 2) * p.length) := by
  induction p generalizing k with
  | nil => simp [movL]
  | cons c u ih =>
    have ih := fun k => ih (fun x hx => hp x (List.mem_cons_of_mem _ hx)) k
    have hc : Sz t c := hp c List.mem_cons_self
    have e : coef (movL a b (c :: u)) k = conv (movL a b u) (trim [a, b]) k + coef (trim [c * b ^ u.length]) k := by
      show coef (sumL (mulL (movL a b u) (trim [a, b])) (trim [c * b ^ u.length]) 1) k = _
      rw [coef_sumL, coef_mulL, Int.one_mul]
    rw [e, coef_trim, List.length_cons]
    have h1 := conv_pairB ih ha hb k
    have h2 : (coef [c * b ^ u.length] k).natAbs ≤ 2 ^ (t + s * u.length) := by
      cases k with
      | zero =>
        rw [coef_c0, Int.natAbs_mul, Int.natAbs_pow, Nat.pow_add, Nat.pow_mul]
        exact Nat.mul_le_mul (Nat.le_of_lt hc) (Nat.pow_le_pow_left hb _)
      | succ k => simp
    have h3 : 2 * (2 ^ s * 2 ^ (t + (s + 2) * u.length)) = 2 ^ (t + (s + 2) * u.length + s + 1) := by
      rw [← Nat.pow_add, Nat.mul_comm, ← Nat.pow_succ]
      congr 1
      omega
    have h4 : 2 ^ (t + s * u.length) ≤ 2 ^ (t + (s + 2) * u.length + s + 1) := Nat.pow_le_pow_right (by decide) (by
      have : s * u.length ≤ (s + 2) * u.length := Nat.mul_le_mul_right _ (by omega)
      omega)
    have h5 : 2 ^ (t + (s + 2) * (u.length + 1)) = 2 ^ (t + (s + 2) * u.length + s + 1) + 2 ^ (t + (s + 2) * u.length + s + 1) := by
      rw [Nat.mul_succ, show t + ((s + 2) * u.length + (s + 2)) = (t + (s + 2) * u.length + s + 1) + 1 by omega, Nat.pow_succ]
      omega
    omega
theorem mov_len' (a b : Int) (p : List Int) : (movL a b p).length ≤ p.length := by
  have := trim_length (p := movL a b p) (n := p.length) mov_top.1
  rwa [tr_trim mov_tr] at this
theorem k_moved : sp_moved.Ok 5 d_moved := by
  rintro ⟨p, r, s, t⟩ ⟨h1, h2, h3, h4, h5⟩
  have h1 : ∀ x ∈ p, Sz t x := h1
  have h2 : RSz s r := h2
  have h3 : t ≤ 63 := h3
  have h4 : s ≤ 63 := h4
  have h5 : t + (s + 2) * (p.length + 1) ≤ 8000 := h5
  have lp : p.length ≤ 8000 := by
    have : 1 * (p.length + 1) ≤ (s + 2) * (p.length + 1) := Nat.mul_le_mul_right _ (by omega)
    omega
  simp [entry, sp_moved]
  simp -dsimp [d_moved]
  have z : D.lst [] = lsD (movL r.num r.den (p.drop (p.length - 0))) := by rw [Nat.sub_zero, List.drop_length]; rfl
  rw [z]
  refine forL (ns := p.reverse) (fun Q => by simp) (fun m e => ∃ s4, e = [.sh (lsD p), .sh (frD r), .sh (lsD (movL r.num r.den (p.drop (p.length - m)))), .sh (.int ((r.den : Int) ^ m)), s4]) ⟨_, rfl⟩ ?_ ?_
  · rintro m hm e ⟨s4, rfl⟩
    have hm : m < p.length := by simpa using hm
    have cz : Sz t (coef p.reverse m) := h1 _ (by have := mem_coef (p := p.reverse) (k := m) (by simpa using hm); simpa using this)
    have one : ∀ y, D.lst [D.int y] = lsD [y] := fun _ => rfl
    have two : D.lst [D.int r.num, D.int r.den] = lsD [r.num, (r.den : Int)] := rfl
    have rn : r.num.natAbs < 2 ^ 64 := Nat.lt_of_lt_of_le h2.1 (Nat.pow_le_pow_right (by decide) (by omega))
    have rd : (r.den : Int).natAbs < 2 ^ 64 := Nat.lt_of_lt_of_le h2.2 (Nat.pow_le_pow_right (by decide) (by omega))
    have cn : (coef p.reverse m).natAbs < 2 ^ 64 := Nat.lt_of_lt_of_le cz (Nat.pow_le_pow_right (by decide) (by omega))
    have l0 := mov_len' r.num r.den (p.drop (p.length - m))
    rw [List.length_drop] at l0
    have l1 := trim_len [r.num, (r.den : Int)]
    have l2 : [r.num, (r.den : Int)].length = 2 := rfl
    have l3 := mul_len (movL r.num r.den (p.drop (p.length - m))) (trim [r.num, (r.den : Int)])
    have a1 : Lim (movL r.num r.den (p.drop (p.length - m))) (trim [r.num, (r.den : Int)]) := by
      show (movL r.num r.den (p.drop (p.length - m))).length + (trim [r.num, (r.den : Int)]).length ≤ 1000000
      omega
    have a2 : MulOk (movL r.num r.den (p.drop (p.length - m))) (trim [r.num, (r.den : Int)]) := fun x _ y hy => by
      have := trim_mem hy
      simp at this
      rcases this with rfl | rfl
      · exact mulOkR rn
      · exact mulOkR rd
    have m1 : IntMulOk (coef p.reverse m) ((r.den : Int) ^ m) := mulOkL cn
    have m2 : IntMulOk ((r.den : Int) ^ m) (r.den : Int) := mulOkR rd
    have a3 : Lim (mulL (movL r.num r.den (p.drop (p.length - m))) (trim [r.num, (r.den : Int)])) (trim [coef p.reverse m * (r.den : Int) ^ m]) := by
      have d := trim_len [coef p.reverse m * (r.den : Int) ^ m]
      have e : [coef p.reverse m * (r.den : Int) ^ m].length = 1 := rfl
      show (mulL (movL r.num r.den (p.drop (p.length - m))) (trim [r.num, (r.den : Int)])).length + (trim [coef p.reverse m * (r.den : Int) ^ m]).length ≤ 1000000
      omega
    simp -dsimp [one, two, a1, a2, m1, m2, a3]
    have e : sumL (mulL (movL r.num r.den (p.drop (p.length - m))) (trim [r.num, (r.den : Int)])) (trim [coef p.reverse m * (r.den : Int) ^ m]) 1 = movL r.num r.den (p.drop (p.length - (m + 1))) := by
      rw [drop_rev hm]
      show _ = sumL (mulL (movL r.num r.den (p.drop (p.length - m))) (trim [r.num, (r.den : Int)])) (trim [coef p.reverse m * (r.den : Int) ^ (p.drop (p.length - m)).length]) 1
      rw [List.length_drop, show p.length - (p.length - m) = m by omega]
    rw [e, ← Int.pow_succ]
    exact hold ⟨_, rfl⟩
  · rintro e ⟨s4, rfl⟩
    rw [List.length_reverse, Nat.sub_self]
    have ml := mov_len' r.num r.den p
    have ms : ∀ y ∈ movL r.num r.den p, Sz 9000 y := mem_all fun k => by
      have a := mov_size (a := r.num) (b := r.den) (s := s) h1 (Nat.le_of_lt h2.1) (Nat.le_of_lt h2.2) k
      refine Nat.lt_of_le_of_lt a (Nat.pow_lt_pow_right (by decide) ?_)
      rw [Nat.mul_succ] at h5
      omega
    have e : List.drop 0 p = p := rfl
    simp -dsimp
    exact ⟨by omega, ms⟩
theorem k_of_power : sp_of_power.Ok 5 d_of_power := by
  rintro ⟨p, n⟩ ⟨h1, h2, h3⟩
  have h1 : 1 ≤ n := h1
  have h2 : n ≤ 1000 := h2
  have h3 : p.length ≤ 900 := h3
  have m1 : ∀ x, IntMulOk x (n : Int) := fun x => mulR64 (by omega)
  simp [entry, sp_of_power, Spec.det]
  obtain ⟨L, hL⟩ : ∃ L, L = (((p.length : Int) - 1) * n + 1).toNat := ⟨_, rfl⟩
  have hL' : (if 0 < ((p.length : Int) - 1) * n + 1 then ((p.length : Int) - 1) * n + 1 else 0) = (L : Int) := by rw [hL]; exact max0i
  simp -dsimp [d_of_power, m1, hL']
  have Lm : p.length ≠ 0 → L = (p.length - 1) * n + 1 := fun h => by
    rw [hL]
    have : (p.length : Int) - 1 = ((p.length - 1 : Nat) : Int) := by omega
    rw [this]
    show (((p.length - 1) * n + 1 : Nat) : Int).toNat = _
    rfl
  have L0 : p.length = 0 → L = 0 := fun h => by
    rw [hL, h]
    omega
  have LB : L ≤ 1000000 := by
    by_cases z : p.length = 0
    · rw [L0 z]; decide
    · rw [Lm z]
      have : (p.length - 1) * n ≤ 900 * 1000 := Nat.mul_le_mul (by omega) h2
      omega
  refine ⟨by omega, ?_⟩
  refine forE (ns := p) (fun Q => by simp) (fun m e => ∃ xs s3 s4, e = [.sh (lsD p), .sh (.int n), .ow (iL xs), s3, s4] ∧ xs.length = L ∧ ∀ k, k < L → coef xs k = if k % n = 0 ∧ k / n < m then coef p (k / n) else 0) ⟨_, _, _, rfl, by simp, fun k _ => by simp [coef_repl]⟩ ?_ ?_
  · rintro m hm e ⟨xs, s3, s4, rfl, hl, hx⟩
    have lt : m * n < L := by
      rw [Lm (by omega)]
      have : m * n ≤ (p.length - 1) * n := Nat.mul_le_mul_right _ (by omega)
      omega
    have hm' : m * n < xs.length := by omega
    have a2 : ixN xs.length ((m : Int) * (n : Int)) = some (m * n) := ixN_n' hm'
    simp -dsimp [a2, m1]
    refine hold ⟨_, _, _, rfl, by simpa using hl, fun k hk => ?_⟩
    rw [coef_set hm', hx k hk]
    by_cases e : k = m * n
    · subst e
      rw [if_pos rfl, Nat.mul_mod_left, Nat.mul_div_cancel _ (by omega), if_pos ⟨rfl, by omega⟩]
    · rw [if_neg e]
      by_cases g : k % n = 0 ∧ k / n < m
      · rw [if_pos g, if_pos ⟨g.1, by omega⟩]
      · rw [if_neg g, if_neg]
        rintro ⟨g1, g2⟩
        have := Nat.div_add_mod k n
        have : k / n = m := by
          by_cases z : k / n < m
          · exact absurd ⟨g1, z⟩ g
          · omega
        refine e ?_
        rw [← this, Nat.mul_comm]
        omega
  rintro e ⟨xs, s3, s4, rfl, hl, hx⟩
  simp -dsimp
  refine trim_ext fun k => ?_
  rw [coef_mkL, ← hL]
  by_cases g : k < L
  · rw [hx k g, if_pos g]
    by_cases z : k % n = 0
    · by_cases y : k / n < p.length
      · rw [if_pos ⟨z, y⟩, if_pos z]
      · rw [if_neg (fun w => y w.2), if_pos z, coef_ge (by omega)]
    · rw [if_neg (fun w => z w.1), if_neg z]
  · rw [coef_ge (by omega), if_neg g]
theorem coef_all {p : List Int} {P : Int → Prop} (h0 : P 0) (h : ∀ x ∈ p, P x) (k : Nat) : P (coef p k) := by
  by_cases g : k < p.length
  · exact h _ (mem_coef g)
  · rw [coef_ge (by omega)]; exact h0
end Dn

set_option Elab.async false
set_option linter.all false
set_option maxRecDepth 100000
set_option maxHeartbeats 4000000
set_option exponentiation.threshold 100000
/-! k07: plain facts -/
namespace Dn
open PySem PySem.Spec PyProof.Rows L2
theorem fold_dvd {p : List Int} {g : Nat} : ((p.foldl (fun g x => Int.gcd g x) g : Nat) : Int) ∣ (g : Int) ∧ ∀ x ∈ p, ((p.foldl (fun g x => Int.gcd g x) g : Nat) : Int) ∣ x := by
  induction p generalizing g with
  | nil => exact ⟨Int.dvd_refl _, by simp⟩
  | cons a t ih =>
    have h := ih (g := Int.gcd g a)
    refine ⟨Int.dvd_trans h.1 (Int.gcd_dvd_left ..), fun x hx => ?_⟩
    rcases List.mem_cons.mp hx with rfl | hx
    · exact Int.dvd_trans h.1 (Int.gcd_dvd_right ..)
    · exact h.2 x hx
theorem cont_dvd {p : List Int} : ∀ x ∈ p, (contL p : Int) ∣ x := fold_dvd.2
theorem cont_zero {p : List Int} (h : contL p = 0) : ∀ x ∈ p, x = 0 := fun x hx => by
  have := cont_dvd x hx
  rw [h] at this
  exact Int.zero_dvd.mp this
theorem fold_scale {p : List Int} {g c : Nat} : (p.map fun x => (c : Int) * x).foldl (fun g x => Int.gcd g x) (c * g) = c * p.foldl (fun g x => Int.gcd g x) g := by
  induction p generalizing g with
  | nil => rfl
  | cons a t ih =>
    rw [List.map_cons, List.foldl_cons, List.foldl_cons, ← ih]
    congr 1
    rw [Int.natCast_mul, Int.gcd_mul_left]
    rfl
theorem cont_scale {p : List Int} {c : Nat} : contL (p.map fun x => (c : Int) * x) = c * contL p := by
  have := fold_scale (p := p) (g := 0) (c := c)
  rw [Nat.mul_zero] at this
  exact this
theorem fdiv_back {p : List Int} {c : Nat} (h : ∀ x ∈ p, (c : Int) ∣ x) : (p.map fun x => x.fdiv c).map (fun x => (c : Int) * x) = p := by
  rw [List.map_map]
  conv => rhs; rw [← List.map_id p]
  refine List.map_congr_left fun x hx => ?_
  show (c : Int) * x.fdiv c = x
  rw [Int.fdiv_eq_ediv_of_nonneg _ (by omega), Int.mul_ediv_cancel' (h x hx)]
theorem map_fdiv1 {p : List Int} : (p.map fun x => x.fdiv ((1 : Nat) : Int)) = p := by
  conv => rhs; rw [← List.map_id p]
  refine List.map_congr_left fun x _ => ?_
  exact Int.fdiv_one x
theorem tr_zeros0 {p : List Int} (h : Tr p) (h0 : ∀ x ∈ p, x = 0) : p = [] := by
  rw [← tr_trim h]
  exact trim_nil_iff.mpr (coef_all (P := fun x => x = 0) rfl h0)
theorem low_cont {p : List Int} (h : Tr p) : low2L (lowL p) = lowL p := by
  unfold lowL
  split
  · rename_i g
    by_cases z : contL p = 0
    · rw [tr_zeros0 h (cont_zero z)]; rfl
    · have : contL p = 1 := by omega
      unfold low2L
      rw [this, if_pos (by decide)]
      exact map_fdiv1
  · rename_i g
    have b := fdiv_back (cont_dvd (p := p))
    have s := cont_scale (p := p.map fun x => x.fdiv (contL p)) (c := contL p)
    rw [b] at s
    have one : contL (p.map fun x => x.fdiv (contL p)) = 1 := by
      have : contL p * 1 = contL p * contL (p.map fun x => x.fdiv (contL p)) := by rw [Nat.mul_one]; exact s
      exact (Nat.eq_of_mul_eq_mul_left (by omega) this).symm
    unfold low2L
    rw [one, if_pos (by decide)]
    exact map_fdiv1
theorem low_len {p : List Int} : (lowL p).length = p.length := by
  unfold lowL
  split
  · rfl
  · rw [List.length_map]
/-- what the division does: a number above 0, once for all -/
theorem low_scale (p : List Int) : ∃ c : Nat, 0 < c ∧ (lowL p).map (fun x => (c : Int) * x) = p := by
  unfold lowL
  split
  · refine ⟨1, by decide, ?_⟩
    conv => rhs; rw [← List.map_id p]
    exact List.map_congr_left fun x _ => Int.one_mul x
  · exact ⟨contL p, by omega, fdiv_back cont_dvd⟩
theorem low_tr {p : List Int} (h : Tr p) : Tr (lowL p) := by
  obtain ⟨c, hc, e⟩ := low_scale p
  cases hn : p.length with
  | zero =>
    refine .inl (List.eq_nil_of_length_eq_zero ?_)
    rw [low_len, hn]
  | succ n =>
    refine .inr fun w => ?_
    rw [List.getLast?_eq_getElem?, low_len, hn, Nat.add_sub_cancel, List.getElem?_eq_getElem (by rw [low_len]; omega), ← coef_lt] at w
    have w := Option.some.inj w
    have := tr_last h hn
    rw [← e, coef_map (Int.mul_zero _), w, Int.mul_zero] at this
    exact this rfl
theorem low_size {p : List Int} {B : Nat} (h : ∀ k, (coef p k).natAbs ≤ B) (k : Nat) : (coef (lowL p) k).natAbs ≤ B := by
  obtain ⟨c, hc, e⟩ := low_scale p
  have := h k
  rw [← e, coef_map (Int.mul_zero _), Int.natAbs_mul] at this
  have : 1 * (coef (lowL p) k).natAbs ≤ (c : Int).natAbs * (coef (lowL p) k).natAbs := Nat.mul_le_mul_right _ (by omega)
  omega
/-- the moved polynomial's values -/
theorem mov_val (p : List Int) (r : Rat) : ∃ K : Rat, 0 < K ∧ ∀ x, evR (lowL (movL r.num r.den p)) x = K * evR p (x + r) := by
  obtain ⟨c, hc, e⟩ := low_scale (movL r.num r.den p)
  have b0 : (0 : Rat) < ((r.den : Int) : Rat) := Rat.intCast_pos.mpr (den_pos' r)
  have c0 : (0 : Rat) < ((c : Int) : Rat) := Rat.intCast_pos.mpr (by omega)
  have bn : (0 : Rat) < (((r.den : Int) ^ p.length : Int) : Rat) := Rat.intCast_pos.mpr (Int.pow_pos (den_pos' r))
  have bc : (0 : Rat) < ((r.den : Int) : Rat) * ((c : Int) : Rat) := Rat.mul_pos b0 c0
  refine ⟨(((r.den : Int) ^ p.length : Int) : Rat) / (((r.den : Int) : Rat) * ((c : Int) : Rat)), ?_, fun x => ?_⟩
  · exact (Rat.lt_div_iff bc).mpr (by rw [Rat.zero_mul]; exact bn)
  · have rn : (r.num : Rat) = r * ((r.den : Int) : Rat) := by
      have h : (((r.den : Int)) : Rat) ≠ 0 := by grind
      conv => rhs; lhs; rw [← Rat.num_divInt_den r]
      rw [Rat.divInt_eq_div, Rat.div_mul_cancel h]
    have m := ev_mov (a := r.num) (b := r.den) (p := p) (x := x) (y := x + r) (by rw [rn]; grind)
    rw [← e, ev_map] at m
    have d : (((r.den : Int) ^ p.length : Int) : Rat) / (((r.den : Int) : Rat) * ((c : Int) : Rat)) * (((r.den : Int) : Rat) * ((c : Int) : Rat)) = (((r.den : Int) ^ p.length : Int) : Rat) := Rat.div_mul_cancel (by grind)
    have m' : (((r.den : Int) : Rat) * ((c : Int) : Rat)) * evR (lowL (movL r.num r.den p)) x = (((r.den : Int) : Rat) * ((c : Int) : Rat)) * ((((r.den : Int) ^ p.length : Int) : Rat) / (((r.den : Int) : Rat) * ((c : Int) : Rat)) * evR p (x + r)) := by
      generalize (((r.den : Int) ^ p.length : Int) : Rat) / (((r.den : Int) : Rat) * ((c : Int) : Rat)) = q at *
      rw [Rat.mul_assoc, m, ← d]
      grind
    have ne : (((r.den : Int) : Rat) * ((c : Int) : Rat)) ≠ 0 := by grind
    generalize (((r.den : Int) : Rat) * ((c : Int) : Rat)) = z at *
    have := congrArg (fun w => z⁻¹ * w) m'
    simp only [← Rat.mul_assoc, Rat.inv_mul_cancel z ne, Rat.one_mul] at this
    exact this
theorem ev_rsz {p : List Int} {r : Rat} {s t : Nat} (h1 : ∀ x ∈ p, Sz t x) (h2 : RSz s r) (ht : 0 < t) : RSz ((t + s + 1) * p.length + 1) (evR p r) := by
  induction p with
  | nil =>
    refine ⟨Nat.two_pow_pos _, ?_⟩
    show 1 < 2 ^ _
    exact Nat.one_lt_two_pow (by omega)
  | cons c u ih =>
    have ih := ih fun x hx => h1 x (List.mem_cons_of_mem _ hx)
    have hc := h1 c List.mem_cons_self
    rw [ev_cons]
    have := (RSz.int hc ht).add (h2.mul ih)
    refine this.up ?_
    rw [List.length_cons, Nat.mul_succ]
    omega
theorem conv_comm {p q : List Int} {k : Nat} : conv p q k = conv q p k := by
  rw [conv_def, conv_def, Sg_rev]
  refine Sg_congr fun a ha => ?_
  rw [show k - (k + 1 - 1 - a) = a by omega, show k + 1 - 1 - a = k - a by omega, Int.mul_comm]
theorem Sg_bound {n : Nat} {f : Nat → Int} {B : Nat} (h : ∀ k, k < n → (f k).natAbs ≤ B) : (Sg n f).natAbs ≤ n * B := by
  induction n with
  | zero => simp
  | succ n ih =>
    rw [Sg_s, Nat.add_mul, Nat.one_mul]
    have := ih fun k hk => h k (by omega)
    have := h n (by omega)
    omega
theorem conv_bound {p q : List Int} {A B : Nat} (hp : ∀ k, (coef p k).natAbs ≤ A) (hq : ∀ k, (coef q k).natAbs ≤ B) (k : Nat) : (conv p q k).natAbs ≤ q.length * (A * B) := by
  rw [conv_comm, ← cs_len (Nat.le_refl _)]
  refine Sg_bound fun j _ => ?_
  split
  · rw [Int.natAbs_mul, Nat.mul_comm]
    exact Nat.mul_le_mul (hp _) (hq _)
  · exact Nat.zero_le _
theorem put_size {p q : List Int} {A B w : Nat} (hp : ∀ x ∈ p, x.natAbs ≤ A) (hq : ∀ k, (coef q k).natAbs ≤ B) (hw : q.length * B + 1 ≤ w) (k : Nat) : (coef (putL p q) k).natAbs ≤ A * w ^ p.length := by
  induction p generalizing k with
  | nil => simp [putL]
  | cons c u ih =>
    have ih := fun k => ih (fun x hx => hp x (List.mem_cons_of_mem _ hx)) k
    have hc := hp c List.mem_cons_self
    have e : coef (putL (c :: u) q) k = conv (putL u q) q k + coef (trim [c]) k := by
      show coef (sumL (mulL (putL u q) q) (trim [c]) 1) k = _
      rw [coef_sumL, coef_mulL, Int.one_mul]
    rw [e, coef_trim, List.length_cons, Nat.pow_succ]
    have h1 := conv_bound ih hq k
    have h2 : (coef [c] k).natAbs ≤ A := by
      cases k with
      | zero => exact hc
      | succ k => simp
    have h3 : A * w ^ u.length * 1 ≥ A * 1 := by
      rw [Nat.mul_one, Nat.mul_one]
      exact Nat.le_mul_of_pos_right _ (Nat.pow_pos (by omega))
    have h4 : A * (w ^ u.length * w) = (A * w ^ u.length) * w := by rw [Nat.mul_assoc]
    have h5 : (A * w ^ u.length) * (q.length * B + 1) ≤ (A * w ^ u.length) * w := Nat.mul_le_mul_left _ hw
    have h6 : (A * w ^ u.length) * (q.length * B + 1) = q.length * (A * w ^ u.length * B) + A * w ^ u.length := by
      rw [Nat.mul_add, Nat.mul_one]
      congr 1
      rw [← Nat.mul_assoc, Nat.mul_comm _ q.length, Nat.mul_assoc]
    omega
theorem put_tr (p q : List Int) : Tr (putL p q) := by
  cases p with
  | nil => exact .inl rfl
  | cons c t => exact trim_tr _
end Dn

set_option Elab.async false
set_option linter.all false
set_option maxRecDepth 100000
set_option maxHeartbeats 4000000
set_option exponentiation.threshold 100000
/-! division with rest: plain facts -/
namespace Dn
open PySem PySem.Spec PyProof.Rows L2
theorem low_low2 {p : List Int} (h : Tr p) : low2L p = lowL p := by
  unfold lowL low2L
  by_cases z : contL p = 0
  · rw [tr_zeros0 h (cont_zero z)]; rfl
  · rw [if_pos (by omega)]
    split
    · have : contL p = 1 := by omega
      rw [this]
      exact map_fdiv1
    · rfl
theorem low2_scale {p : List Int} {c : Nat} (hc : 0 < c) : low2L (p.map fun x => (c : Int) * x) = low2L p := by
  unfold low2L
  rw [cont_scale]
  by_cases z : contL p = 0
  · rw [z, Nat.mul_zero]
    rfl
  · rw [if_pos (Nat.mul_pos hc (by omega)), if_pos (by omega), List.map_map]
    refine List.map_congr_left fun x hx => ?_
    show Int.fdiv ((c : Int) * x) ((c * contL p : Nat) : Int) = x.fdiv (contL p)
    rw [Int.fdiv_eq_ediv_of_nonneg _ (by omega), Int.fdiv_eq_ediv_of_nonneg _ (by omega), Int.natCast_mul, Int.mul_ediv_mul_of_pos _ _ (by omega)]
/-- multiples by numbers above 0 have one low form -/
theorem low_eq {p q : List Int} {a b : Nat} (ha : 0 < a) (hb : 0 < b) (hp : Tr p) (hq : Tr q) (h : ∀ k, (a : Int) * coef p k = (b : Int) * coef q k) : low2L p = low2L q := by
  have e : (p.map fun x => (a : Int) * x) = (q.map fun x => (b : Int) * x) := by
    have tr : ∀ {c : Nat} {r : List Int}, 0 < c → Tr r → Tr (r.map fun x => (c : Int) * x) := fun {c r} hc hr => by
      rcases hr with rfl | hr
      · exact .inl rfl
      · refine .inr fun z => hr ?_
        rw [List.getLast?_map] at z
        cases e : r.getLast? with
        | none => rw [e] at z; cases z
        | some y =>
          rw [e] at z
          have z : (c : Int) * y = 0 := by simpa using z
          rcases Int.mul_eq_zero.mp z with z | z
          · omega
          · rw [z]
    exact tr_ext (tr ha hp) (tr hb hq) fun k => by rw [coef_map (Int.mul_zero _), coef_map (Int.mul_zero _), h k]
  rw [← low2_scale (p := p) ha, e, low2_scale hb]
/-! sums of fractions -/
def SgQ (n : Nat) (f : Nat → Rat) : Rat := match n with
  | 0 => 0
  | n + 1 => SgQ n f + f n
@[simp] theorem SgQ_0 {f : Nat → Rat} : SgQ 0 f = 0 := rfl
theorem SgQ_s {n : Nat} {f : Nat → Rat} : SgQ (n + 1) f = SgQ n f + f n := rfl
theorem SgQ_congr {n : Nat} {f g : Nat → Rat} (h : ∀ k, k < n → f k = g k) : SgQ n f = SgQ n g := by
  induction n with
  | zero => rfl
  | succ n ih => rw [SgQ_s, SgQ_s, ih fun k hk => h k (by omega), h n (by omega)]
theorem SgQ_zero {n : Nat} {f : Nat → Rat} (h : ∀ k, k < n → f k = 0) : SgQ n f = 0 := by
  induction n with
  | zero => rfl
  | succ n ih => rw [SgQ_s, ih fun k hk => h k (by omega), h n (by omega), Rat.add_zero]
theorem SgQ_add {n : Nat} {f g : Nat → Rat} : SgQ n (fun k => f k + g k) = SgQ n f + SgQ n g := by
  induction n with
  | zero => exact (Rat.add_zero 0).symm
  | succ n ih => rw [SgQ_s, SgQ_s, SgQ_s, ih]; grind
theorem SgQ_mul {n : Nat} {f : Nat → Rat} {c : Rat} : SgQ n (fun k => c * f k) = c * SgQ n f := by
  induction n with
  | zero => simp
  | succ n ih => rw [SgQ_s, SgQ_s, ih]; grind
theorem SgQ_one {n j : Nat} {f : Nat → Rat} (hj : j < n) (h : ∀ k, k < n → k ≠ j → f k = 0) : SgQ n f = f j := by
  induction n with
  | zero => omega
  | succ n ih =>
    rw [SgQ_s]
    by_cases e : j = n
    · subst e
      rw [SgQ_zero fun k hk => h k (by omega) (by omega), Rat.zero_add]
    · rw [ih (by omega) fun k hk hk' => h k (by omega) hk', h n (by omega) (by omega), Rat.add_zero]
theorem SgQ_int {n : Nat} {f : Nat → Int} : SgQ n (fun k => (f k : Rat)) = (Sg n f : Rat) := by
  induction n with
  | zero => rfl
  | succ n ih => rw [SgQ_s, Sg_s, ih, Rat.intCast_add]
/-- the product with a row of whole numbers, coefficients by a function -/
def cvQ (q : Nat → Rat) (b : List Int) (k : Nat) : Rat := SgQ (k + 1) fun i => q i * (coef b (k - i) : Rat)
theorem cv_add {p q : Nat → Rat} {b : List Int} {k : Nat} : cvQ (fun i => p i + q i) b k = cvQ p b k + cvQ q b k := by
  unfold cvQ
  rw [← SgQ_add]
  exact SgQ_congr fun i _ => by grind
theorem cv_mul {c : Rat} {q : Nat → Rat} {b : List Int} {k : Nat} : cvQ (fun i => c * q i) b k = c * cvQ q b k := by
  unfold cvQ
  rw [← SgQ_mul]
  exact SgQ_congr fun i _ => by grind
theorem cv_int {q b : List Int} {k : Nat} : cvQ (fun i => (coef q i : Rat)) b k = (conv q b k : Rat) := by
  unfold cvQ
  rw [conv_def, ← SgQ_int]
  exact SgQ_congr fun i _ => by rw [Rat.intCast_mul]
theorem rat_int_zero {i : Int} (h : (i : Rat) = 0) : i = 0 := by
  have := congrArg Rat.num h
  simpa using this
/-- only 0 times b is shorter than b -/
theorem cv_zero {q : Nat → Rat} {b : List Int} {m N : Nat} (hm : b.length = m + 1) (hb : coef b m ≠ 0) (hN : ∀ k, N ≤ k → q k = 0) (h : ∀ k, m ≤ k → cvQ q b k = 0) : ∀ k, q k = 0 := by
  have hb' : (coef b m : Rat) ≠ 0 := fun e => hb (rat_int_zero e)
  have key : ∀ n k, N ≤ k + n → q k = 0 := fun n => by
    induction n with
    | zero => exact fun k hk => hN k hk
    | succ n ih =>
      intro k hk
      have := h (k + m) (by omega)
      unfold cvQ at this
      rw [SgQ_one (j := k) (by omega) fun i hi hik => ?_] at this
      · rw [show k + m - k = m by omega] at this
        rcases Rat.mul_eq_zero.mp this with z | z
        · exact z
        · exact absurd z hb'
      · by_cases g : i < k
        · rw [coef_ge (p := b) (by omega), show ((0 : Int) : Rat) = 0 from rfl, Rat.mul_zero]
        · rw [ih i (by omega), Rat.zero_mul]
  exact fun k => key N k (by omega)
theorem cv_high {q : Nat → Rat} {b : List Int} {m N n : Nat} (hm : b.length = m + 1) (hb : coef b m ≠ 0) (hN : ∀ k, N ≤ k → q k = 0) (h : ∀ k, n + m ≤ k → cvQ q b k = 0) : ∀ k, n ≤ k → q k = 0 := by
  have hb' : (coef b m : Rat) ≠ 0 := fun e => hb (rat_int_zero e)
  have key : ∀ i k, N ≤ k + i → n ≤ k → q k = 0 := fun i => by
    induction i with
    | zero => exact fun k hk _ => hN k hk
    | succ i ih =>
      intro k hk hn
      have := h (k + m) (by omega)
      unfold cvQ at this
      rw [SgQ_one (j := k) (by omega) fun j hj hjk => ?_] at this
      · rw [show k + m - k = m by omega] at this
        rcases Rat.mul_eq_zero.mp this with z | z
        · exact z
        · exact absurd z hb'
      · by_cases g : j < k
        · rw [coef_ge (p := b) (by omega), show ((0 : Int) : Rat) = 0 from rfl, Rat.mul_zero]
        · rw [ih j (by omega) (by omega), Rat.zero_mul]
  exact fun k hn => key N k (by omega) hn
/-- the top coefficient -/
theorem cv_top {q : Nat → Rat} {b : List Int} {m n : Nat} (hm : b.length = m + 1) (h : ∀ k, n < k → q k = 0) : cvQ q b (n + m) = q n * (coef b m : Rat) := by
  unfold cvQ
  rw [SgQ_one (j := n) (by omega) fun j hj hjn => ?_, show n + m - n = m by omega]
  by_cases g : j < n
  · rw [coef_ge (p := b) (by omega), show ((0 : Int) : Rat) = 0 from rfl, Rat.mul_zero]
  · rw [h j (by omega), Rat.zero_mul]
theorem cv_mono {t : Rat} {d k : Nat} {b : List Int} : cvQ (fun i => if i = d then t else 0) b k = if d ≤ k then t * (coef b (k - d) : Rat) else 0 := by
  unfold cvQ
  by_cases g : d ≤ k
  · rw [if_pos g, SgQ_one (j := d) (by omega) fun j hj hjd => ?_]
    · show (if d = d then t else 0) * _ = _
      rw [if_pos rfl]
    · show (if j = d then t else 0) * _ = 0
      rw [if_neg hjd, Rat.zero_mul]
  · rw [if_neg g]
    refine SgQ_zero fun j hj => ?_
    show (if j = d then t else 0) * _ = 0
    rw [if_neg (by omega), Rat.zero_mul]
/-- quotient and rest are one -/
theorem div_one {q q' r r' : Nat → Rat} {b : List Int} {m N : Nat} (hm : b.length = m + 1) (hb : coef b m ≠ 0) (hN : ∀ k, N ≤ k → q k = 0 ∧ q' k = 0)
    (hr : ∀ k, m ≤ k → r k = 0) (hr' : ∀ k, m ≤ k → r' k = 0) (h : ∀ k, cvQ q b k + r k = cvQ q' b k + r' k) : (∀ k, q k = q' k) ∧ ∀ k, r k = r' k := by
  have z : ∀ k, (fun i => q i + (-1) * q' i) k = 0 := cv_zero (N := N) hm hb (fun k hk => by rw [(hN k hk).1, (hN k hk).2, Rat.mul_zero, Rat.add_zero]) fun k hk => by
    rw [cv_add, cv_mul]
    have := h k
    rw [hr k hk, hr' k hk] at this
    grind
  have e : ∀ k, q k = q' k := fun k => by
    have := z k
    grind
  refine ⟨e, fun k => ?_⟩
  have := h k
  rw [show q = q' from funext e] at this
  grind
end Dn

set_option Elab.async false
set_option linter.all false
set_option maxRecDepth 100000
set_option maxHeartbeats 4000000
set_option exponentiation.threshold 100000
/-! division with rest: the program's defs -/
namespace Dn
open PySem PySem.Spec PyProof.Rows L2
def Rest (A B F : List Int) : Prop := ∃ (c N : Nat) (q : Nat → Rat), 0 < c ∧ (∀ k, N ≤ k → q k = 0) ∧ (∀ k, (c : Rat) * (coef A k : Rat) = cvQ q B k + (coef F k : Rat)) ∧ F.length < B.length ∧ Tr F
def RS (s t : Nat) (A B : List Int) : Prop := (∀ x ∈ A, Sz t x) ∧ (∀ y ∈ B, Sz s y) ∧ s ≤ 63 ∧ t + (s + 1) * (A.length + 1) ≤ 8000 ∧ B.length ≤ 1000 ∧ Tr A ∧ Tr B
def NoQ (A B : List Int) : Prop := ∀ q : List Int, ¬ ∀ k, coef A k = conv q B k
def sp_rest_of : SpecX := ⟨List Int × List Int × Nat × Nat, fun x => [lsD x.1, lsD x.2.1], fun x => RS x.2.2.1 x.2.2.2 x.1 x.2.1, fun x => x.2.1 = [], fun x r => ∃ F, r = .fr (iL (lowL F)) ∧ Rest x.1 x.2.1 F⟩
def sp_divided : SpecX := ⟨List Int × List Int × Nat × Nat, fun x => [lsD x.1, lsD x.2.1], fun x => RS x.2.2.1 x.2.2.2 x.1 x.2.1, fun x => x.2.1 = [], fun x r => (∃ f, r = .fr (iL (trim f)) ∧ ∀ k, coef x.1 k = conv f x.2.1 k) ∨ (r = .sh .non ∧ NoQ x.1 x.2.1)⟩
def d_rest_of : DX :=
  (xSeq (xIf (tB (eOp eqR (eVar 1) (eLst aNil))) xRaise (xLift sNext))
  (xLift (sSeq (sOwn 2 (eOp1 listR (eVar 0)))
  (sSeq (sSet 3 (eOp ixR (eVar 1) (eOp1 negR (eC (.int 1)))))
  (sSeq (sWhile (tB (eOp geR (eOp1 lenR (eVar 2)) (eOp1 lenR (eVar 1)))) (sSeq (sSet 4 (eOp mulR (eOp ixR (eVar 2) (eOp1 negR (eC (.int 1)))) (eCall sp_sign (aCons (eVar 3) aNil))))
  (sSeq (sSet 5 (eOp subR (eOp1 lenR (eVar 2)) (eOp1 lenR (eVar 1))))
  (sSeq (sOwn 2 (eLc (iSeq (eVar 2)) (CT.one 7) tYesD (eOp mulR (eVar 7) (eOp1 absR (eVar 3))) [7]))
  (sSeq (sFor (iListArg enumD (aCons (eVar 1) aNil)) (gTupD 2 (gConsD (gN 6) (gConsD (gN 7) gNilD))) (sAugS 2 subR (eOp addR (eVar 5) (eVar 6)) (eOp mulR (eVar 4) (eVar 7))))
  (sOwn 2 (eCall sp_trimmed (aCons (eVar 2) aNil))))))))
  (sRet (eCall sp_lowered (aCons (eVar 2) aNil))))))))

theorem lcL2 {i : DI} {g : CT} {e : DE} {vs : List Nat} {env e0 : En} {Q : Rv → En → Prop} {f : Fx Q} (items : List D) (out : List Int) (hl : out.length = items.length) (hn : out.length ≤ 1000000) (hi : ∀ Q : List D → En → Prop, i.run env Q = Q items e0) (hv : ∀ v ∈ vs, v < e0.length ∧ (e0.getD v .no).plain)
    (hs : ∀ k (h : k < items.length), g.run items[k] (wipeE e0 vs) fun e2 => e.run e2 fun r e4 => dat e4 r fun d e5 => d = .int (coef out k) ∧ wipeE e5 vs = wipeE e0 vs)
    (hd : Q (.fr (iL out)) (unwipe (wipeE e0 vs) e0 vs)) : LcF i g tYesD e vs env Q f := by
  refine lc_go items e0 (fun Q q => by rw [hi]; exact q) hv (fun k o e1 => o = iL (out.take k) ∧ e1 = wipeE e0 vs) ⟨rfl, rfl⟩ ?_ ?_
  · rintro k x o e1 hx ⟨rfl, rfl⟩
    obtain ⟨h, rfl⟩ := List.getElem?_eq_some_iff.mp hx
    refine CT.mono' (fun e2 q => ?_) (hs k h)
    rw [r_tYes, if_pos rfl]
    refine e.mono _ _ _ (fun r e4 q => dat_mono (fun d e5 q => ?_) q) q
    obtain ⟨rfl, q⟩ := q
    refine ⟨?_, ?_, q⟩
    · rw [iL_len, List.length_take]; omega
    · rw [List.take_succ_eq_append_getElem (by omega), ← iL_app, coef_lt (by omega)]
      rfl
  · rintro o e1 ⟨rfl, rfl⟩
    rw [← hl, List.take_length]
    exact hd
theorem sgn_abs (a : Int) : a.sign * a = (a.natAbs : Int) := by
  rcases Int.lt_trichotomy a 0 with z | z | z
  · rw [Int.sign_eq_neg_one_of_neg z]; omega
  · subst z; rfl
  · rw [Int.sign_eq_one_of_pos z]; omega
theorem last_coef {p : List Int} {n : Nat} (h : p.length = n + 1) : p.getLast? = some (coef p n) := by
  rw [List.getLast?_eq_getElem?, h, Nat.add_sub_cancel, at_n' (by omega)]
theorem k_rest_of : sp_rest_of.Ok 8 d_rest_of := by
  rintro ⟨A, B, s, t⟩ ⟨h1, h2, h3, h4, h5, h6, h7⟩
  have h1 : ∀ x ∈ A, Sz t x := h1
  have h2 : ∀ y ∈ B, Sz s y := h2
  have h3 : s ≤ 63 := h3
  have h4 : t + (s + 1) * (A.length + 1) ≤ 8000 := h4
  have h5 : B.length ≤ 1000 := h5
  have h6 : Tr A := h6
  have h7 : Tr B := h7
  have lA : A.length ≤ 8000 := by
    have : 1 * (A.length + 1) ≤ (s + 1) * (A.length + 1) := Nat.mul_le_mul_right _ (by omega)
    omega
  simp [entry, sp_rest_of]
  by_cases hB : B = []
  · simp -dsimp [d_rest_of, hB]
  obtain ⟨m, hm⟩ : ∃ m, B.length = m + 1 := ⟨B.length - 1, by have := List.length_pos_iff.mpr hB; omega⟩
  have lB := last_coef hm
  have b0 := tr_last h7 hm
  have bs : ∀ k, (coef B k).natAbs ≤ 2 ^ s := coef_all (P := fun x => x.natAbs ≤ 2 ^ s) (Nat.zero_le _) fun x hx => Nat.le_of_lt (h2 x hx)
  have b64 : ∀ k, (coef B k).natAbs < 2 ^ 64 := fun k => Nat.lt_of_le_of_lt (bs k) (Nat.pow_lt_pow_right (by decide) (by omega))
  simp -dsimp [d_rest_of, hB, lB]
  refine whileI (fun e => ∃ F s4 s5 s6 s7, e = [.sh (lsD A), .sh (lsD B), .ow (iL F), .sh (.int (coef B m)), s4, s5, s6, s7] ∧ s7.plain ∧ Tr F ∧ F.length ≤ A.length ∧ (∃ (c N : Nat) (q : Nat → Rat), 0 < c ∧ (∀ k, N ≤ k → q k = 0) ∧ (∀ k, (c : Rat) * (coef A k : Rat) = cvQ q B k + (coef F k : Rat))) ∧ ∀ k, (coef F k).natAbs ≤ 2 ^ (t + (s + 1) * (A.length - F.length)))
    (fun (e : En) => match e[2]? with | some (Sl.ow xs) => xs.length | _ => 0) ⟨A, _, _, _, _, rfl, trivial, h6, Nat.le_refl _, ⟨1, 0, fun _ => 0, by decide, fun _ _ => rfl, fun k => ?_⟩, ?_⟩ ?_
  · have : cvQ (fun _ => 0) B k = 0 := SgQ_zero fun j _ => Rat.zero_mul _
    rw [this, Rat.zero_add]
    exact Rat.one_mul _
  · rw [Nat.sub_self, Nat.mul_zero]
    exact coef_all (P := fun x => x.natAbs ≤ 2 ^ t) (Nat.zero_le _) fun x hx => Nat.le_of_lt (h1 x hx)
  · rintro e ⟨F, s4, s5, s6, s7, rfl, p7, tF, lF, ⟨c, N, q, hc, hN, hq⟩, zF⟩
    by_cases g : B.length ≤ F.length
    · have g' : (B.length : Int) ≤ (F.length : Int) := by omega
      obtain ⟨d, hd⟩ : ∃ d, F.length = d + m + 1 := ⟨F.length - B.length, by omega⟩
      have lFc := last_coef hd
      have m1 : IntMulOk (coef F (d + m)) (coef B m).sign := mulR64 (by
        rcases Int.lt_trichotomy (coef B m) 0 with z | z | z
        · rw [Int.sign_eq_neg_one_of_neg z]; decide
        · exact absurd z b0
        · rw [Int.sign_eq_one_of_pos z]; decide)
      have e5 : (F.length : Int) - (B.length : Int) = (d : Int) := by omega
      simp -dsimp [g', lFc, m1, e5]
      obtain ⟨lead, hlead⟩ : ∃ x, x = coef B m := ⟨_, rfl⟩
      obtain ⟨top, htop⟩ : ∃ x, x = coef F (d + m) * (coef B m).sign := ⟨_, rfl⟩
      have tl : top * lead = coef F (d + m) * (lead.natAbs : Int) := by
        rw [htop, ← hlead, Int.mul_assoc, sgn_abs]
      have ts : top.natAbs ≤ 2 ^ (t + (s + 1) * (A.length - F.length)) := by
        rw [htop, Int.natAbs_mul]
        have : (coef B m).sign.natAbs ≤ 1 := by
          rcases Int.lt_trichotomy (coef B m) 0 with z | z | z
          · rw [Int.sign_eq_neg_one_of_neg z]; decide
          · exact absurd z b0
          · rw [Int.sign_eq_one_of_pos z]; decide
        calc (coef F (d + m)).natAbs * (coef B m).sign.natAbs ≤ (coef F (d + m)).natAbs * 1 := Nat.mul_le_mul_left _ this
          _ = (coef F (d + m)).natAbs := Nat.mul_one _
          _ ≤ _ := zF _
      rw [← htop, ← hlead]
      have ml : ∀ x, IntMulOk x (lead.natAbs : Int) := fun x => mulOkR (by rw [hlead]; exact b64 m)
      refine lcL2 (iL F) (F.map fun x => x * (lead.natAbs : Int)) (e0 := [.sh (lsD A), .sh (lsD B), .sh (lsD F), .sh (.int lead), .sh (.int top), .sh (.int d), s6, s7]) (by simp) (by simp; omega) (fun Q => by simp) (by simpa using p7) (fun j hj => ?_) ?_
      · have hj : j < F.length := by simpa using hj
        rw [iL_get hj, coef_map (f := fun x => x * (lead.natAbs : Int)) (Int.zero_mul _), coef_lt hj]
        simp -dsimp [abs_eq, ml]
      simp -dsimp
      refine forE (ns := B) (fun Q => by simp) (fun j e => ∃ xs s6 s7, e = [.sh (lsD A), .sh (lsD B), .ow (iL xs), .sh (.int lead), .sh (.int top), .sh (.int d), s6, s7] ∧ s7.plain ∧ xs.length = F.length ∧ ∀ k, coef xs k = coef F k * (lead.natAbs : Int) - if d ≤ k ∧ k - d < j then top * coef B (k - d) else 0) ⟨_, _, _, rfl, p7, by simp, fun k => by rw [coef_map (f := fun x => x * (lead.natAbs : Int)) (Int.zero_mul _), if_neg (by omega), Int.sub_zero]⟩ ?_ ?_
      · rintro j hj e ⟨xs, s6, s7, rfl, p7, hl, hx⟩
        have hm' : d + j < xs.length := by omega
        have a1 : atI (iL xs) ((d : Int) + (j : Int)) = some (.int (coef xs (d + j))) := atI_n' hm'
        have a2 : ixN xs.length ((d : Int) + (j : Int)) = some (d + j) := ixN_n' hm'
        have a3 : IntMulOk top (coef B j) := mulOkR (b64 j)
        simp -dsimp [a1, a2, a3]
        refine hold ⟨_, _, _, rfl, trivial, by simpa using hl, fun k => ?_⟩
        rw [coef_set hm', hx (d + j), hx k]
        by_cases e : k = d + j
        · subst e
          rw [if_pos rfl, if_neg (by omega), if_pos (by omega), Nat.add_sub_cancel_left, Int.sub_zero]
        · rw [if_neg e]
          by_cases g : d ≤ k ∧ k - d < j
          · rw [if_pos g, if_pos (by omega)]
          · rw [if_neg g, if_neg (by omega)]
      rintro e ⟨xs, s6', s7', rfl, p7', hl, hx⟩
      have hx' : ∀ k, coef xs k = coef F k * (lead.natAbs : Int) - if d ≤ k then top * coef B (k - d) else 0 := fun k => by
        rw [hx k]
        by_cases g : d ≤ k
        · rw [if_pos g]
          by_cases g2 : k - d < B.length
          · rw [if_pos ⟨g, g2⟩]
          · rw [if_neg (fun w => g2 w.2), coef_ge (p := B) (by omega), Int.mul_zero]
        · rw [if_neg g, if_neg (fun w => g w.1)]
      have tl' : (trim xs).length ≤ d + m := trim_length fun k hk => by
        rw [hx' k, if_pos (by omega)]
        by_cases e : k = d + m
        · subst e
          rw [Nat.add_sub_cancel_left, ← hlead, tl, Int.sub_self]
        · rw [coef_ge (p := F) (by omega), coef_ge (p := B) (by omega), Int.zero_mul, Int.mul_zero, Int.sub_self]
      simp -dsimp
      refine hold ⟨⟨trim xs, _, _, _, _, by rw [hlead], p7', trim_tr _, by omega, ⟨c * lead.natAbs, N + d + 1, fun i => (lead.natAbs : Rat) * q i + (if i = d then (top : Rat) else 0), Nat.mul_pos hc (by rw [hlead]; omega), fun k hk => ?_, fun k => ?_⟩, fun k => ?_⟩, ?_⟩
      · show (lead.natAbs : Rat) * q k + (if k = d then (top : Rat) else 0) = 0
        rw [hN k (by omega), if_neg (by omega), Rat.mul_zero, Rat.add_zero]
      · rw [cv_add, cv_mul, cv_mono, coef_trim, hx' k]
        have := hq k
        have n1 : ((c * lead.natAbs : Nat) : Rat) = (c : Rat) * (lead.natAbs : Rat) := Rat.natCast_mul ..
        have n2 : (((lead.natAbs : Nat) : Int) : Rat) = (lead.natAbs : Rat) := Rat.intCast_natCast _
        rw [n1]
        split
        · rw [Rat.intCast_sub, Rat.intCast_mul, Rat.intCast_mul, n2]
          grind
        · rw [Int.sub_zero, Rat.intCast_mul, n2]
          grind
      · rw [coef_trim, hx' k]
        obtain ⟨X, hX⟩ : ∃ X, X = 2 ^ (t + (s + 1) * (A.length - F.length)) := ⟨_, rfl⟩
        have y1 : (coef F k * (lead.natAbs : Int)).natAbs ≤ X * 2 ^ s := by
          rw [Int.natAbs_mul, hX]
          exact Nat.mul_le_mul (zF k) (by rw [hlead]; exact bs m)
        have y2 : (if d ≤ k then top * coef B (k - d) else 0).natAbs ≤ X * 2 ^ s := by
          split
          · rw [Int.natAbs_mul, hX]
            exact Nat.mul_le_mul ts (bs _)
          · exact Nat.zero_le _
        have y3 : X * 2 ^ s + X * 2 ^ s = 2 ^ (t + (s + 1) * (A.length - F.length) + (s + 1)) := by
          rw [hX, ← Nat.pow_add, ← Nat.two_mul, Nat.mul_comm, ← Nat.pow_succ]
          congr 1
        have y4 : 2 ^ (t + (s + 1) * (A.length - F.length) + (s + 1)) ≤ 2 ^ (t + (s + 1) * (A.length - (trim xs).length)) := Nat.pow_le_pow_right (by decide) (by
          have : (s + 1) * (A.length - F.length + 1) ≤ (s + 1) * (A.length - (trim xs).length) := Nat.mul_le_mul_left _ (by omega)
          rw [Nat.mul_succ] at this
          omega)
        omega
      · simp
        omega
    · have g' : ¬ (B.length : Int) ≤ (F.length : Int) := by omega
      have fz : ∀ y ∈ F, Sz 9000 y := mem_all fun k => by
        refine Nat.lt_of_le_of_lt (zF k) (Nat.pow_lt_pow_right (by decide) ?_)
        have : (s + 1) * (A.length - F.length) ≤ (s + 1) * (A.length + 1) := Nat.mul_le_mul_left _ (by omega)
        omega
      simp -dsimp [g', hB]
      refine ⟨⟨by omega, fz⟩, ?_⟩
      exact ⟨F, rfl, c, N, q, hc, hN, hq, by omega, tF⟩
end Dn

set_option Elab.async false
set_option linter.all false
set_option maxRecDepth 100000
set_option maxHeartbeats 4000000
set_option exponentiation.threshold 100000
/-! division without rest; the primitive form; what is told -/
namespace Dn
open PySem PySem.Spec PyProof.Rows L2
def prmL (p : List Int) : List Int := if p ≠ [] ∧ coef p (p.length - 1) < 0 then p.map fun x => -x else p
def LsR (p : List Int) (r : Rv) : Prop := r = .fr (iL p) ∨ r = .sh (lsD p)
def sp_primitive : Spec := ⟨List Int, fun x => [lsD x], fun x => x.length ≤ 1000000 ∧ (∀ y ∈ x, Sz 9000 y) ∧ Tr x, fun x r => LsR (prmL (lowL x)) r⟩
def sp__law_primitive : Spec := ⟨List Int, fun x => [lsD x], fun x => x.length ≤ 1000000 ∧ (∀ y ∈ x, Sz 9000 y) ∧ Tr x, fun x r => LsR (prmL (lowL x)) r⟩
theorem neg_tr {p : List Int} (h : Tr p) : Tr (p.map fun x => -x) := by
  rcases h with rfl | h
  · exact .inl rfl
  · refine .inr fun z => h ?_
    rw [List.getLast?_map] at z
    cases e : p.getLast? with
    | none => rw [e] at z; cases z
    | some y =>
      rw [e] at z
      have z : -y = 0 := by simpa using z
      rw [show y = 0 by omega]
theorem scl_neg {p : List Int} (h : Tr p) : sclL (-1) p = p.map fun x => -x :=
  tr_ext (trim_tr _) (neg_tr h) fun k => by
    show coef (sclL (-1) p) k = _
    rw [coef_sclL, coef_map (f := fun x => -x) rfl]
    omega
def sp__law_told : Spec := ⟨Int × List Int × List Int × Nat × Nat, fun x => [.int x.1, lsD x.2.1, lsD x.2.2.1], fun x => RS x.2.2.2.1 x.2.2.2.2 x.2.1 x.2.2.1, fun x r => (x.2.2.1 = [] → r = .sh (.str "none")) ∧ (x.2.2.1 ≠ [] → (x.1 = 0 → ∃ F, r = .fr (iL (lowL F)) ∧ Rest x.2.1 x.2.2.1 F) ∧ (x.1 ≠ 0 → (∃ f, r = .fr (iL (trim f)) ∧ ∀ k, coef x.2.1 k = conv f x.2.2.1 k) ∨ (r = .sh .non ∧ NoQ x.2.1 x.2.2.1)))⟩
def d_divided : DX :=
  (xSeq (xIf (tB (eOp eqR (eVar 1) (eLst aNil))) xRaise (xLift sNext))
  (xLift (sSeq (sOwn 2 (eOp1 listR (eVar 0)))
  (sSeq (sOwn 3 (eOp mulR (eLst (aCons (eC (.int 0)) aNil)) (eOp max2R (eC (.int 0)) (eOp addR (eOp subR (eOp1 lenR (eVar 0)) (eOp1 lenR (eVar 1))) (eC (.int 1))))))
  (sSeq (sWhile (tB (eOp geR (eOp1 lenR (eVar 2)) (eOp1 lenR (eVar 1)))) (sSeq (sIf (tB (eOp neR (eOp modR (eOp ixR (eVar 2) (eOp1 negR (eC (.int 1)))) (eOp ixR (eVar 1) (eOp1 negR (eC (.int 1))))) (eC (.int 0)))) (sRet (eC .non)) sNext)
  (sSeq (sSet 4 (eOp fdivR (eOp ixR (eVar 2) (eOp1 negR (eC (.int 1)))) (eOp ixR (eVar 1) (eOp1 negR (eC (.int 1))))))
  (sSeq (sSet 5 (eOp subR (eOp1 lenR (eVar 2)) (eOp1 lenR (eVar 1))))
  (sSeq (sStore 3 (eVar 4) (eVar 5))
  (sSeq (sFor (iListArg enumD (aCons (eVar 1) aNil)) (gTupD 2 (gConsD (gN 6) (gConsD (gN 7) gNilD))) (sAugS 2 subR (eOp addR (eVar 5) (eVar 6)) (eOp mulR (eVar 4) (eVar 7))))
  (sOwn 2 (eCall sp_trimmed (aCons (eVar 2) aNil)))))))))
  (sSeq (sIf (tB (eOp neR (eVar 2) (eLst aNil))) (sRet (eC .non)) sNext)
  (sRet (eCall sp_trimmed (aCons (eVar 3) aNil)))))))))

def d_primitive : DS :=
  (sSeq (sSet 1 (eCall sp_lowered (aCons (eVar 0) aNil)))
  (sSeq (sIf (tAnd (tB (eOp neR (eVar 1) (eLst aNil))) (tB (eOp ltR (eOp ixR (eVar 1) (eOp1 negR (eC (.int 1)))) (eC (.int 0))))) (sRet (eCall sp_scaled (aCons (eVar 1) (aCons (eOp1 negR (eC (.int 1))) aNil)))) sNext)
  (sRet (eVar 1))))

def d__law_primitive : DS :=
  (sSeq (sSet 1 (eCall sp__law_low (aCons (eVar 0) aNil)))
  (sRet (eIf (tAnd (tB (eOp neR (eVar 1) (eLst aNil))) (tB (eOp ltR (eOp ixR (eVar 1) (eOp1 negR (eC (.int 1)))) (eC (.int 0))))) (eLc (iSeq (eVar 1)) (CT.one 2) tYesD (eOp1 negR (eVar 2)) [2]) (eVar 1))))

def d__law_told : DS :=
  (sTry (xRet (xIfE (tB (eOp eqR (eVar 0) (eC (.int 0)))) (xCall sp_rest_of (aCons (eVar 1) (aCons (eVar 2) aNil))) (xCall sp_divided (aCons (eVar 1) (aCons (eVar 2) aNil))))) (sRet (eC (.str "none"))))

theorem k__law_told : sp__law_told.Ok 3 d__law_told := by
  rintro ⟨w, A, B, s, t⟩ h
  have h : RS s t A B := h
  simp [entry, sp__law_told]
  simp -dsimp [d__law_told]
  by_cases hw : w = 0
  · subst hw
    simp -dsimp
    refine SpecX.go sp_rest_of (A, B, s, t) rfl h (fun z => ?_) (fun z r hr => ?_)
    · have z : B = [] := z
      simp -dsimp [z]
    · have z : ¬ B = [] := z
      obtain ⟨F, rfl, hr⟩ := hr
      simp -dsimp [z]
      exact ⟨F, rfl, hr⟩
  · simp -dsimp [hw]
    refine SpecX.go sp_divided (A, B, s, t) rfl h (fun z => ?_) (fun z r hr => ?_)
    · have z : B = [] := z
      simp -dsimp [z]
    · have z : ¬ B = [] := z
      rcases hr with ⟨f, rfl, hr⟩ | ⟨rfl, hr⟩
      · simp -dsimp [z]
        exact ⟨fun h => absurd h hw, fun _ => ⟨f, rfl, hr⟩⟩
      · simp -dsimp [z]
        exact ⟨hw, fun _ => hr⟩
theorem k_divided : sp_divided.Ok 8 d_divided := by
  rintro ⟨A, B, s, t⟩ ⟨h1, h2, h3, h4, h5, h6, h7⟩
  have h2 : ∀ y ∈ B, Sz s y := h2
  have h3 : s ≤ 63 := h3
  have h4 : t + (s + 1) * (A.length + 1) ≤ 8000 := h4
  have h5 : B.length ≤ 1000 := h5
  have h6 : Tr A := h6
  have h7 : Tr B := h7
  have lA : A.length ≤ 8000 := by
    have : 1 * (A.length + 1) ≤ (s + 1) * (A.length + 1) := Nat.mul_le_mul_right _ (by omega)
    omega
  simp [entry, sp_divided]
  by_cases hB : B = []
  · simp -dsimp [d_divided, hB]
  obtain ⟨m, hm⟩ : ∃ m, B.length = m + 1 := ⟨B.length - 1, by have := List.length_pos_iff.mpr hB; omega⟩
  have lB := last_coef hm
  have b0 := tr_last h7 hm
  have bs : ∀ k, (coef B k).natAbs ≤ 2 ^ s := coef_all (P := fun x => x.natAbs ≤ 2 ^ s) (Nat.zero_le _) fun x hx => Nat.le_of_lt (h2 x hx)
  have b64 : ∀ k, (coef B k).natAbs < 2 ^ 64 := fun k => Nat.lt_of_le_of_lt (bs k) (Nat.pow_lt_pow_right (by decide) (by omega))
  obtain ⟨L, hL⟩ : ∃ L, L = A.length - m := ⟨_, rfl⟩
  have hL' : (if 0 < (A.length : Int) - (B.length : Int) + 1 then (A.length : Int) - (B.length : Int) + 1 else 0) = (L : Int) := by omega
  simp -dsimp [d_divided, hB, lB, hL']
  have b0' : ¬ coef B m = 0 := b0
  -- what a quotient would say
  have quo : ∀ (f F q : List Int), (∀ k, (coef A k : Rat) = cvQ (fun i => (coef f i : Rat)) B k + (coef F k : Rat)) → (∀ k, coef A k = conv q B k) → ∀ k, cvQ (fun i => (coef q i : Rat) + (-1) * (coef f i : Rat)) B k = (coef F k : Rat) := fun f F q h hq k => by
    rw [cv_add (p := fun i => (coef q i : Rat)) (q := fun i => (-1) * (coef f i : Rat)), cv_mul (q := fun i => (coef f i : Rat)), cv_int (q := q), ← hq k, h k]
    grind
  have fin : ∀ (f q : List Int) k, max f.length q.length ≤ k → (coef q k : Rat) + (-1) * (coef f k : Rat) = 0 := fun f q k hk => by
    rw [coef_ge (p := q) (by omega), coef_ge (p := f) (by omega)]
    show (0 : Rat) + (-1) * 0 = 0
    rw [Rat.mul_zero, Rat.add_zero]
  refine ⟨by omega, ?_⟩
  refine whileI (fun e => ∃ F f s4 s5 s6 s7, e = [.sh (lsD A), .sh (lsD B), .ow (iL F), .ow (iL f), s4, s5, s6, s7] ∧ Tr F ∧ F.length ≤ A.length ∧ f.length = L ∧ (∀ k, (coef A k : Rat) = cvQ (fun i => (coef f i : Rat)) B k + (coef F k : Rat)) ∧ ∀ k, k + B.length ≤ F.length → coef f k = 0)
    (fun (e : En) => match e[2]? with | some (Sl.ow xs) => xs.length | _ => 0) ⟨A, List.replicate L 0, _, _, _, _, rfl, h6, Nat.le_refl _, by simp, fun k => ?_, fun k _ => coef_repl⟩ ?_
  · have : cvQ (fun i => (coef (List.replicate L 0) i : Rat)) B k = 0 := SgQ_zero fun j _ => by
      show (coef (List.replicate L 0) j : Rat) * _ = 0
      rw [coef_repl]; exact Rat.zero_mul _
    rw [this, Rat.zero_add]
  · rintro e ⟨F, f, s4, s5, s6, s7, rfl, tF, lF, lf, hq, hf⟩
    by_cases g : B.length ≤ F.length
    · have g' : (B.length : Int) ≤ (F.length : Int) := by omega
      obtain ⟨d, hd⟩ : ∃ d, F.length = d + m + 1 := ⟨F.length - B.length, by omega⟩
      have lFc := last_coef hd
      have e5 : (F.length : Int) - (B.length : Int) = (d : Int) := by omega
      by_cases dv : Int.fmod (coef F (d + m)) (coef B m) = 0
      · have dok : DivOk (coef F (d + m)) (coef B m) := Sz.divOk (n := 64) (b64 m) (by decide) b0
        have ix : ixN f.length (d : Int) = some d := ixN_n' (by omega)
        simp -dsimp [g', lFc, lB, hB, b0', dv, dok, e5, ix]
        obtain ⟨num, hnum⟩ : ∃ x, x = Int.fdiv (coef F (d + m)) (coef B m) := ⟨_, rfl⟩
        have nl : num * coef B m = coef F (d + m) := by
          rw [hnum]
          have := Int.mul_fdiv_add_fmod (coef F (d + m)) (coef B m)
          rw [dv, Int.add_zero] at this
          rw [Int.mul_comm]
          exact this
        rw [← hnum]
        refine forE (ns := B) (fun Q => by simp) (fun j e => ∃ xs s6 s7, e = [.sh (lsD A), .sh (lsD B), .ow (iL xs), .ow (iL (f.set d num)), .sh (.int num), .sh (.int d), s6, s7] ∧ xs.length = F.length ∧ ∀ k, coef xs k = coef F k - if d ≤ k ∧ k - d < j then num * coef B (k - d) else 0) ⟨_, _, _, rfl, rfl, fun k => by rw [if_neg (by omega), Int.sub_zero]⟩ ?_ ?_
        · rintro j hj e ⟨xs, s6, s7, rfl, hl, hx⟩
          have hm' : d + j < xs.length := by omega
          have a1 : atI (iL xs) ((d : Int) + (j : Int)) = some (.int (coef xs (d + j))) := atI_n' hm'
          have a2 : ixN xs.length ((d : Int) + (j : Int)) = some (d + j) := ixN_n' hm'
          have a3 : IntMulOk num (coef B j) := mulOkR (b64 j)
          simp -dsimp [a1, a2, a3]
          refine hold ⟨_, _, _, rfl, by simpa using hl, fun k => ?_⟩
          rw [coef_set hm', hx (d + j), hx k]
          by_cases e : k = d + j
          · subst e
            rw [if_pos rfl, if_neg (by omega), if_pos (by omega), Nat.add_sub_cancel_left, Int.sub_zero]
          · rw [if_neg e]
            by_cases g : d ≤ k ∧ k - d < j
            · rw [if_pos g, if_pos (by omega)]
            · rw [if_neg g, if_neg (by omega)]
        rintro e ⟨xs, s6', s7', rfl, hl, hx⟩
        have hx' : ∀ k, coef xs k = coef F k - if d ≤ k then num * coef B (k - d) else 0 := fun k => by
          rw [hx k]
          by_cases g : d ≤ k
          · rw [if_pos g]
            by_cases g2 : k - d < B.length
            · rw [if_pos ⟨g, g2⟩]
            · rw [if_neg (fun w => g2 w.2), coef_ge (p := B) (by omega), Int.mul_zero]
          · rw [if_neg g, if_neg (fun w => g w.1)]
        have tl' : (trim xs).length ≤ d + m := trim_length fun k hk => by
          rw [hx' k, if_pos (by omega)]
          by_cases e : k = d + m
          · subst e
            rw [Nat.add_sub_cancel_left, nl, Int.sub_self]
          · rw [coef_ge (p := F) (by omega), coef_ge (p := B) (by omega), Int.mul_zero, Int.sub_self]
        have f0 : coef f d = 0 := hf d (by omega)
        simp -dsimp
        refine hold ⟨⟨trim xs, _, _, _, _, _, rfl, trim_tr _, by omega, by simpa using lf, fun k => ?_, fun k hk => ?_⟩, ?_⟩
        · have e1 : (fun i => (coef (f.set d num) i : Rat)) = fun i => (coef f i : Rat) + (if i = d then (num : Rat) else 0) := by
            funext i
            rw [coef_set (by omega)]
            by_cases e : i = d
            · rw [if_pos e, if_pos e, e, f0]
              exact (Rat.zero_add _).symm
            · rw [if_neg e, if_neg e, Rat.add_zero]
          rw [e1, cv_add, cv_mono, coef_trim, hx' k, hq k]
          split
          · rw [Rat.intCast_sub, Rat.intCast_mul]
            grind
          · rw [Int.sub_zero, Rat.add_zero]
        · rw [coef_set (by omega), if_neg (by omega)]
          exact hf k (by omega)
        · simp
          omega
      · simp -dsimp [g', lFc, lB, hB, b0', dv]
        intro q hA
        have hg := quo f F q hq hA
        have hi := cv_high (n := d + 1) hm b0 (fin f q) fun k hk => by
          rw [hg k, coef_ge (by omega)]; rfl
        have tp := cv_top (n := d) hm (fun k hk => hi k (by omega))
        rw [hg (d + m)] at tp
        have : coef F (d + m) = (coef q d - coef f d) * coef B m := by
          have h1 : ((coef F (d + m) : Int) : Rat) = (((coef q d - coef f d) * coef B m : Int) : Rat) := by
            rw [tp, Rat.intCast_mul, Rat.intCast_sub]
            grind
          have := congrArg Rat.num h1
          rw [Rat.num_intCast, Rat.num_intCast] at this
          exact this
        exact dv (by rw [this, Int.mul_comm]; exact Int.mul_fmod_right ..)
    · have g' : ¬ (B.length : Int) ≤ (F.length : Int) := by omega
      by_cases hF : F = []
      · simp -dsimp [g', hF, hB]
        refine ⟨f, rfl, fun k => ?_⟩
        have := hq k
        rw [hF, coef_nil, cv_int] at this
        have h1 : ((coef A k : Int) : Rat) = ((conv f B k : Int) : Rat) := by rw [this]; exact Rat.add_zero _
        have := congrArg Rat.num h1
        simpa using this
      · simp -dsimp [g', hF, hB]
        intro q hA
        have hg := quo f F q hq hA
        have z := cv_zero hm b0 (fin f q) fun k hk => by
          rw [hg k, coef_ge (by omega)]; rfl
        refine hF ?_
        rw [← tr_trim tF]
        refine trim_nil_iff.mpr fun k => rat_int_zero ?_
        rw [← hg k]
        refine SgQ_zero fun j _ => ?_
        have := z j
        show ((coef q j : Rat) + (-1) * (coef f j : Rat)) * _ = 0
        rw [this, Rat.zero_mul]
theorem k_primitive : sp_primitive.Ok 2 d_primitive := by
  rintro (p : List Int) ⟨h1, h2, h3⟩
  have h1 : p.length ≤ 1000000 := h1
  have h2 : ∀ y ∈ p, Sz 9000 y := h2
  have h3 : Tr p := h3
  have lt := low_tr h3
  have m1 : ∀ y ∈ lowL p, IntMulOk (-1) y := fun y _ => mulOkL (by decide)
  have ll : (lowL p).length ≤ 1000000 := by rw [low_len]; exact h1
  simp [entry, sp_primitive]
  cases hn : (lowL p).length with
  | zero =>
    have e := List.eq_nil_of_length_eq_zero hn
    simp -dsimp [d_primitive, e]
    exact ⟨⟨h1, h2⟩, .inr rfl⟩
  | succ n =>
    have e : ¬ lowL p = [] := fun e => by rw [e] at hn; cases hn
    have lc := last_coef hn
    by_cases g : coef (lowL p) n < 0
    · simp -dsimp [d_primitive, e, lc, g]
      refine ⟨⟨h1, h2⟩, ⟨ll, m1⟩, .inl ?_⟩
      unfold prmL
      rw [if_pos ⟨e, by rw [hn]; exact g⟩, scl_neg lt]
    · simp -dsimp [d_primitive, e, lc, g]
      refine ⟨⟨h1, h2⟩, .inr ?_⟩
      unfold prmL
      rw [if_neg (fun w => g (by have := w.2; rwa [hn] at this))]
theorem k__law_primitive : sp__law_primitive.Ok 3 d__law_primitive := by
  rintro (p : List Int) ⟨h1, h2, h3⟩
  have h1 : p.length ≤ 1000000 := h1
  have h2 : ∀ y ∈ p, Sz 9000 y := h2
  have h3 : Tr p := h3
  have lt := low_tr h3
  have l2 := low_low2 h3
  have ll : (lowL p).length ≤ 1000000 := by rw [low_len]; exact h1
  simp [entry, sp__law_primitive]
  cases hn : (lowL p).length with
  | zero =>
    have e := List.eq_nil_of_length_eq_zero hn
    simp -dsimp [d__law_primitive, l2, e]
    exact ⟨⟨h1, h2⟩, .inr rfl⟩
  | succ n =>
    have e : ¬ lowL p = [] := fun e => by rw [e] at hn; cases hn
    have lc := last_coef hn
    by_cases g : coef (lowL p) n < 0
    · simp -dsimp [d__law_primitive, l2, e, lc, g]
      refine ⟨⟨h1, h2⟩, ?_⟩
      refine lcL (iL (lowL p)) ((lowL p).map fun x => -x) (by simp) (by simpa using ll) (fun Q => by simp) (by simp) (fun j hj => ?_) ?_
      · have hj : j < (lowL p).length := by simpa using hj
        rw [iL_get hj, coef_map (f := fun x => -x) rfl, coef_lt hj]
        simp -dsimp
      · simp -dsimp
        refine .inl ?_
        unfold prmL
        rw [if_pos ⟨e, by rw [hn]; exact g⟩]
    · simp -dsimp [d__law_primitive, l2, e, lc, g]
      refine ⟨⟨h1, h2⟩, .inr ?_⟩
      unfold prmL
      rw [if_neg (fun w => g (by have := w.2; rwa [hn] at this))]
end Dn

set_option Elab.async false
set_option linter.all false
set_option maxRecDepth 100000
set_option maxHeartbeats 4000000
set_option exponentiation.threshold 100000
/-! the law's own division, and its whole multiple -/
namespace Dn
open PySem PySem.Spec PyProof.Rows L2
def fL (rs : List Rat) : List D := rs.map frD
def qc (rs : List Rat) (k : Nat) : Rat := rs.getD k 0
@[simp] theorem fL_len {rs : List Rat} : (fL rs).length = rs.length := by simp [fL]
@[simp] theorem fL_at {rs : List Rat} {k : Nat} : (fL rs)[k]? = rs[k]?.map frD := by simp [fL]
@[simp] theorem fL_set {rs : List Rat} {k : Nat} {x : Rat} : (fL rs).set k (frD x) = fL (rs.set k x) := by simp [fL, List.map_set]
theorem fL_get {rs : List Rat} {k : Nat} (h : k < rs.length) : (fL rs)[k]'(by simpa using h) = frD rs[k] := by simp [fL]
@[simp] theorem fL_repl {n : Nat} {x : Rat} : List.replicate n (frD x) = fL (List.replicate n x) := by simp [fL]
theorem qc_ge {p : List Rat} {k : Nat} (h : p.length ≤ k) : qc p k = 0 := by
  unfold qc
  rw [List.getD_eq_getElem?_getD, List.getElem?_eq_none h]
  rfl
theorem qc_lt {p : List Rat} {k : Nat} (h : k < p.length) : qc p k = p[k] := by
  unfold qc
  rw [List.getD_eq_getElem?_getD, List.getElem?_eq_getElem h]
  rfl
theorem qc_set {xs : List Rat} {i k : Nat} {x : Rat} (h : i < xs.length) : qc (xs.set i x) k = if k = i then x else qc xs k := by
  unfold qc
  rw [List.getD_eq_getElem?_getD, List.getD_eq_getElem?_getD, List.getElem?_set]
  by_cases e : i = k
  · subst e
    simp [h]
  · rw [if_neg e, if_neg (by omega)]
theorem qc_repl {n k : Nat} : qc (List.replicate n 0) k = 0 := by
  by_cases h : k < n
  · rw [qc_lt (by simpa using h)]; simp
  · rw [qc_ge (by simpa using h)]
theorem qc_int {p : List Int} {k : Nat} : qc (p.map fun (x : Int) => (x : Rat)) k = (coef p k : Rat) := by
  by_cases h : k < p.length
  · rw [qc_lt (by simpa using h), coef_lt h]; simp
  · rw [qc_ge (by simpa using h), coef_ge (by omega)]; rfl
theorem qc_take {p : List Rat} {m k : Nat} (h : ∀ k, m ≤ k → qc p k = 0) : qc (p.take m) k = qc p k := by
  by_cases g : k < m
  · unfold qc
    rw [List.getD_eq_getElem?_getD, List.getD_eq_getElem?_getD, List.getElem?_take_of_lt g]
  · rw [h k (by omega), qc_ge (by rw [List.length_take]; omega)]
theorem atI_f {xs : List Rat} {m : Nat} (h : m < xs.length) : atI (fL xs) (m : Int) = some (frD (qc xs m)) := by
  rw [atI_of, fL_at, List.getElem?_eq_getElem h, qc_lt h]
  rfl
theorem cutN {xs : List Rat} {m : Nat} : cutD (fL xs) none (some (m : Int)) = fL (xs.take m) := by
  unfold cutD
  have e : HT.sIx (fL xs).length (fL xs).length (some (m : Int)) = min m (fL xs).length := HT.sIx_nat _ _ m
  rw [e, HT.sIx_none, Nat.sub_zero, List.drop_zero, fL_len]
  show (xs.map frD).take _ = (xs.take m).map frD
  rw [List.map_take, ← List.map_take, ← List.map_take]
  congr 1
  by_cases h : m ≤ xs.length
  · rw [Nat.min_eq_left h]
  · rw [Nat.min_eq_right (by omega), List.take_length, List.take_of_length_le (by omega)]
def Long (A B : List Int) (qs rs : List Rat) : Prop := qs.length = A.length + 1 - B.length ∧ (∀ k, (coef A k : Rat) = cvQ (qc qs) B k + qc rs k) ∧ (∀ k, B.length ≤ k + 1 → qc rs k = 0)
def LS' (s t : Nat) (A B : List Int) : Prop := (∀ x ∈ A, Sz t x) ∧ (∀ y ∈ B, Sz s y) ∧ t + (s + 1) * (A.length + 1) ≤ 4000 ∧ B.length ≤ 1000 ∧ Tr B ∧ B ≠ []
def sp__law_long : Spec := ⟨List Int × List Int × Nat × Nat, fun x => [lsD x.1, lsD x.2.1], fun x => LS' x.2.2.1 x.2.2.2 x.1 x.2.1, fun x r => ∃ qs rs, r = .fr [.lst (fL qs), .lst (fL rs)] ∧ Long x.1 x.2.1 qs rs ∧ rs.length ≤ x.2.1.length ∧ (∀ k, (qc rs k).den ≤ 2 ^ (x.2.2.1 * x.1.length) ∧ (qc rs k).num.natAbs ≤ 2 ^ (x.2.2.2 + (x.2.2.1 + 1) * x.1.length))⟩
def sp__law_whole : Spec := ⟨List Rat × Nat × Nat, fun x => [.lst (fL x.1)], fun x => (∀ r ∈ x.1, r.den ≤ 2 ^ x.2.1 ∧ r.num.natAbs ≤ 2 ^ x.2.2) ∧ x.1.length ≤ 1000000 ∧ (x.2.1 + 1) * (x.1.length + 1) + x.2.2 ≤ 8000, fun x r => ∃ (N : Nat) (Z : List Int), 0 < N ∧ r = .fr (iL (low2L (trim Z))) ∧ ∀ k, (coef Z k : Rat) = (N : Rat) * qc x.1 k⟩
def d__law_long : DS :=
  (sSeq (sOwn 2 (eLc (iSeq (eVar 0)) (CT.one 10) tYesD (eTup (aCons (eVar 10) (aCons (eC (.int 1)) aNil))) [10]))
  (sSeq (sOwn 3 (eOp mulR (eLst (aCons (eTup (aCons (eC (.int 0)) (aCons (eC (.int 1)) aNil))) aNil)) (eOp max2R (eC (.int 0)) (eOp addR (eOp subR (eOp1 lenR (eVar 0)) (eOp1 lenR (eVar 1))) (eC (.int 1))))))
  (sSeq (sFor (iRevR1 (eOp1 lenR (eVar 3))) (gN 4) (sSeq (sSet 5 (eOp ixR (eVar 2) (eOp subR (eOp addR (eVar 4) (eOp1 lenR (eVar 1))) (eC (.int 1)))))
  (sSeq (sSet 6 (eCall sp__law_ratio (aCons (eOp ixR (eVar 5) (eC (.int 0))) (aCons (eOp mulR (eOp ixR (eVar 5) (eC (.int 1))) (eOp ixR (eVar 1) (eOp1 negR (eC (.int 1))))) aNil))))
  (sSeq (sStore 3 (eVar 6) (eVar 4))
  (sFor (iRange1 (aCons (eOp1 lenR (eVar 1)) aNil)) (gN 7) (sSeq (sSet 8 (eOp ixR (eVar 2) (eOp addR (eVar 4) (eVar 7))))
  (sSeq (sSet 9 (eCall sp__law_ratio (aCons (eOp subR (eOp mulR (eOp ixR (eVar 8) (eC (.int 0))) (eOp ixR (eVar 6) (eC (.int 1)))) (eOp mulR (eOp mulR (eOp ixR (eVar 6) (eC (.int 0))) (eOp ixR (eVar 1) (eVar 7))) (eOp ixR (eVar 8) (eC (.int 1))))) (aCons (eOp mulR (eOp ixR (eVar 8) (eC (.int 1))) (eOp ixR (eVar 6) (eC (.int 1)))) aNil))))
  (sStore 2 (eVar 9) (eOp addR (eVar 4) (eVar 7))))))))))
  (sRet (eLst (aCons (eVar 3) (aCons (eSl (eVar 2) oNone (oSome (eOp subR (eOp1 lenR (eVar 1)) (eC (.int 1))))) aNil)))))))

def d__law_whole : DS :=
  (sSeq (sSet 1 (eC (.int 1)))
  (sSeq (sFor (iSeq (eVar 0)) (gN 2) (sSet 1 (eOp1 intR (eOp fdivR (eOp mulR (eVar 1) (eOp ixR (eVar 2) (eC (.int 1)))) (eCall sp__law_divisor (aCons (eVar 1) (aCons (eOp ixR (eVar 2) (eC (.int 1))) aNil)))))))
  (sRet (eCall sp__law_low (aCons (eCall sp__law_trim (aCons (eLc (iSeq (eVar 0)) (CT.one 2) tYesD (eOp1 intR (eOp fdivR (eOp mulR (eOp ixR (eVar 2) (eC (.int 0))) (eVar 1)) (eOp ixR (eVar 2) (eC (.int 1))))) [2]) aNil)) aNil)))))

theorem num_eqQ (r : Rat) : (r.num : Rat) = r * ((r.den : Int) : Rat) := by
  have h : (((r.den : Int)) : Rat) ≠ 0 := fun e => by
    have := congrArg Rat.num e
    simp only [Rat.num_intCast, Rat.zero_num] at this
    exact den_ne r this
  conv => rhs; lhs; rw [← Rat.num_divInt_den r]
  rw [Rat.divInt_eq_div, Rat.div_mul_cancel h]
/-- how a number of the j-th turn looks -/
def St (l : Int) (s t j : Nat) (v : Rat) : Prop := ∃ z : Int, v * ((l ^ j : Int) : Rat) = (z : Rat) ∧ z.natAbs ≤ 2 ^ (t + (s + 1) * j)
theorem st_sz {l : Int} {s t j : Nat} {v : Rat} (h : St l s t j v) (l0 : l ≠ 0) (ls : l.natAbs ≤ 2 ^ s) : v.den ≤ 2 ^ (s * j) ∧ v.num.natAbs ≤ 2 ^ (t + (s + 1) * j) := by
  obtain ⟨z, hz, hb⟩ := h
  have lj : l ^ j ≠ 0 := Int.pow_ne_zero l0
  have e : v.num * l ^ j = z * v.den := by
    have n := num_eqQ v
    have : ((v.num * l ^ j : Int) : Rat) = ((z * v.den : Int) : Rat) := by
      rw [Rat.intCast_mul, Rat.intCast_mul, n, ← hz]
      grind
    have := congrArg Rat.num this
    rw [Rat.num_intCast, Rat.num_intCast] at this
    exact this
  have e' := congrArg Int.natAbs e
  rw [Int.natAbs_mul, Int.natAbs_mul, Int.natAbs_natCast] at e'
  have dv : v.den ∣ (l ^ j).natAbs := by
    refine (Nat.Coprime.symm v.reduced).dvd_of_dvd_mul_left ?_
    rw [e']
    exact Nat.dvd_mul_left _ _
  have dl := Nat.le_of_dvd (by omega) dv
  have pl : (l ^ j).natAbs ≤ 2 ^ (s * j) := by
    rw [Int.natAbs_pow, Nat.pow_mul]
    exact Nat.pow_le_pow_left ls j
  refine ⟨Nat.le_trans dl pl, Nat.le_trans ?_ hb⟩
  have : v.num.natAbs * (l ^ j).natAbs ≤ z.natAbs * (l ^ j).natAbs := by
    rw [e']
    exact Nat.mul_le_mul_left _ dl
  exact Nat.le_of_mul_le_mul_right this (by omega)
theorem k__law_long : sp__law_long.Ok 11 d__law_long := by
  rintro ⟨A, B, s, t⟩ ⟨h1, h2, h4, h5, h7, hB⟩
  have h1 : ∀ x ∈ A, Sz t x := h1
  have h2 : ∀ y ∈ B, Sz s y := h2
  have h4 : t + (s + 1) * (A.length + 1) ≤ 4000 := h4
  have h5 : B.length ≤ 1000 := h5
  have h7 : Tr B := h7
  have hB : ¬ B = [] := hB
  have lA : A.length ≤ 4000 := by
    have : 1 * (A.length + 1) ≤ (s + 1) * (A.length + 1) := Nat.mul_le_mul_right _ (by omega)
    omega
  simp [entry, sp__law_long]
  obtain ⟨m, hm⟩ : ∃ m, B.length = m + 1 := ⟨B.length - 1, by have := List.length_pos_iff.mpr hB; omega⟩
  have lB := last_coef hm
  have b0 := tr_last h7 hm
  have bs : ∀ k, (coef B k).natAbs ≤ 2 ^ s := coef_all (P := fun x => x.natAbs ≤ 2 ^ s) (Nat.zero_le _) fun x hx => Nat.le_of_lt (h2 x hx)
  obtain ⟨L, hL⟩ : ∃ L, L = A.length - m := ⟨_, rfl⟩
  have hL' : (if 0 < (A.length : Int) - (B.length : Int) + 1 then (A.length : Int) - (B.length : Int) + 1 else 0) = (L : Int) := by omega
  have f0 : D.tup [.int 0, .int 1] = frD 0 := rfl
  simp -dsimp [d__law_long, hB]
  refine lc_map (iL A) (fL (A.map fun (x : Int) => (x : Rat))) (by simp) (by simp; omega) (fun Q => by simp) (by simp) (fun j hj => ?_) ?_
  · have hj : j < A.length := by simpa using hj
    rw [iL_get hj, fL_get (by simpa using hj), List.getElem_map]
    simp -dsimp [frD_int]
  simp -dsimp [hL', f0]
  refine ⟨by omega, ?_⟩
  have sL : Sm (L : Int) := sm_n (by omega)
  have b0' : (coef B m : Rat) ≠ 0 := fun e => b0 (rat_int_zero e)
  refine forI (rangeC ((L : Int) - 1) (-1) L) [.sh (lsD A), .sh (lsD B), .ow (fL (A.map fun (x : Int) => (x : Rat))), .ow (fL (List.replicate L 0)), .no, .no, .no, .no, .no, .no, .no] (fun Q q => by simpa [sL] using q)
    (fun j e => ∃ ls qs s4 s5 s6 s7 s8 s9, e = [.sh (lsD A), .sh (lsD B), .ow (fL ls), .ow (fL qs), s4, s5, s6, s7, s8, s9, .no] ∧ ls.length = A.length ∧ qs.length = L ∧ (∀ k, (coef A k : Rat) = cvQ (qc qs) B k + qc ls k) ∧ (∀ k, A.length ≤ k + j → qc ls k = 0) ∧ (∀ k, k + j < L → qc qs k = 0) ∧ ∀ k, St (coef B m) s t j (qc ls k))
    ⟨_, _, _, _, _, _, _, _, rfl, by simp, by simp, fun k => ?_, fun k hk => qc_ge (by simpa using hk), fun k _ => qc_repl, fun k => ?_⟩ ?_ ?_
  · have : cvQ (qc (List.replicate L 0)) B k = 0 := SgQ_zero fun j _ => by rw [qc_repl, Rat.zero_mul]
    rw [this, Rat.zero_add, qc_int]
  · rw [qc_int]
    refine ⟨coef A k, ?_, coef_all (P := fun x => x.natAbs ≤ 2 ^ (t + (s + 1) * 0)) (Nat.zero_le _) (fun x hx => Nat.le_of_lt (by rw [Nat.mul_zero, Nat.add_zero]; exact h1 x hx)) k⟩
    rw [Int.pow_zero]
    exact Rat.mul_one _
  · rintro j x e hx ⟨ls, qs, s4, s5, s6, s7, s8, s9, rfl, ll, lq, hd, hz, hq, hs⟩
    rw [rangeC_get] at hx
    split at hx
    · rename_i hj
      cases hx
      have e4 : (L : Int) - 1 + (j : Int) * (-1) = ((L - 1 - j : Nat) : Int) := by omega
      rw [e4]
      obtain ⟨a, ha⟩ : ∃ a, a = L - 1 - j := ⟨_, rfl⟩
      rw [← ha]
      have am : a + m < ls.length := by omega
      have x1 : atI (fL ls) ((a : Int) + (B.length : Int) - 1) = some (frD (qc ls (a + m))) := by
        have : (a : Int) + (B.length : Int) - 1 = ((a + m : Nat) : Int) := by omega
        rw [this]
        exact atI_f am
      have le1 : (s + 1) * (j + 1) ≤ (s + 1) * (A.length + 1) := Nat.mul_le_mul_left _ (by omega)
      have le2 : s * (j + 1) ≤ (s + 1) * (A.length + 1) := Nat.mul_le_mul (by omega) (by omega)
      have up : ∀ {v : Rat} {i : Nat}, St (coef B m) s t i v → i ≤ j + 1 → RSz 4001 v := fun {v i} h hi => by
        have z := st_sz h b0 (bs m)
        have le3 : (s + 1) * i ≤ (s + 1) * (A.length + 1) := Nat.mul_le_mul_left _ (by omega)
        have le4 : s * i ≤ (s + 1) * (A.length + 1) := Nat.mul_le_mul (by omega) (by omega)
        exact ⟨Nat.lt_of_le_of_lt z.2 (Nat.pow_lt_pow_right (by decide) (by omega)), Nat.lt_of_le_of_lt z.1 (Nat.pow_lt_pow_right (by decide) (by omega))⟩
      obtain ⟨top, htop⟩ : ∃ x, x = qc ls (a + m) := ⟨_, rfl⟩
      obtain ⟨num, hnum⟩ : ∃ x : Rat, x = top / (coef B m : Rat) := ⟨_, rfl⟩
      have sto : St (coef B m) s t j top := by rw [htop]; exact hs _
      have nl : num * (coef B m : Rat) = top := by rw [hnum]; exact Rat.div_mul_cancel b0'
      obtain ⟨zt, hzt, bzt⟩ := id sto
      have sn : St (coef B m) s t (j + 1) num := ⟨zt, by
        rw [Int.pow_succ, Rat.intCast_mul, ← hzt, ← nl]
        grind, Nat.le_trans bzt (Nat.pow_le_pow_right (by decide) (by rw [Nat.mul_succ]; omega))⟩
      have rt := up sto (by omega)
      have rn := up sn (by omega)
      have bz : Sz (s + 1) (coef B m) := Nat.lt_of_le_of_lt (bs m) (Nat.pow_lt_pow_right (by decide) (by omega))
      have s40 : s ≤ 4000 := by
        have : s * 1 ≤ (s + 1) * (A.length + 1) := Nat.mul_le_mul (by omega) (by omega)
        omega
      have m1 : IntMulOk (top.den : Int) (coef B m) := rt.den.mulOk bz (by omega)
      have z1 : Sz 9000 ((top.den : Int) * coef B m) := (rt.den.mul bz).up (by omega)
      have n1 : ¬ coef B m = 0 := b0
      have n2 := top.den_nz
      have q1 : Rat.divInt top.num ((top.den : Int) * coef B m) = num := by
        have := div_divInt top (coef B m : Rat)
        rw [Rat.den_intCast, Rat.num_intCast] at this
        rw [hnum, this]
        congr 1
        show _ = top.num * (1 : Int)
        rw [Int.mul_one]
      have ix : ixN qs.length (a : Int) = some a := ixN_n' (by omega)
      rw [← htop] at x1
      simp -dsimp [x1, lB, hB, m1, z1, n1, n2, q1, ix]
      refine forR (n := B.length) (by omega) (fun Q => by simp) (fun k e => ∃ ls' s7 s8 s9, e = [.sh (lsD A), .sh (lsD B), .ow (fL ls'), .ow (fL (qs.set a num)), .sh (.int a), .sh (frD top), .sh (frD num), s7, s8, s9, .no] ∧ ls'.length = A.length ∧ ∀ i, qc ls' i = if a ≤ i ∧ i - a < k then qc ls i - num * (coef B (i - a) : Rat) else qc ls i) ⟨_, _, _, _, rfl, ll, fun i => by rw [if_neg (by omega)]⟩ ?_ ?_
      · rintro k hk e ⟨ls', s7, s8, s9, rfl, hl, hx⟩
        have hm' : a + k < ls'.length := by omega
        have a1 : atI (fL ls') ((a : Int) + (k : Int)) = some (frD (qc ls' (a + k))) := atI_f hm'
        have a2 : ixN ls'.length ((a : Int) + (k : Int)) = some (a + k) := ixN_n' hm'
        have old : qc ls' (a + k) = qc ls (a + k) := by rw [hx, if_neg (by omega)]
        rw [old] at a1
        obtain ⟨v, hv⟩ : ∃ v, v = qc ls (a + k) := ⟨_, rfl⟩
        rw [← hv] at a1
        have rv : RSz 4001 v := by rw [hv]; exact up (hs _) (by omega)
        have bk : Sz (s + 1) (coef B k) := Nat.lt_of_le_of_lt (bs k) (Nat.pow_lt_pow_right (by decide) (by omega))
        have c1 : IntMulOk v.num (num.den : Int) := rv.num.mulOk rn.den (by decide)
        have c2 : IntMulOk num.num (coef B k) := rn.num.mulOk bk (by omega)
        have c3 : IntMulOk (num.num * coef B k) (v.den : Int) := (rn.num.mul bk).mulOk rv.den (by omega)
        have c4 : IntMulOk (v.den : Int) (num.den : Int) := rv.den.mulOk rn.den (by decide)
        have z2 : Sz 9000 ((v.den : Int) * (num.den : Int)) := (rv.den.mul rn.den).up (by decide)
        have n3 := v.den_nz
        have n4 := num.den_nz
        have q2 : Rat.divInt (v.num * num.den - num.num * coef B k * v.den) ((v.den : Int) * (num.den : Int)) = v - num * (coef B k : Rat) := by
          have d0 : (v.den : Int) * (num.den : Int) ≠ 0 := Int.mul_ne_zero (den_ne v) (den_ne num)
          have d0' : (((v.den : Int) * (num.den : Int) : Int) : Rat) ≠ 0 := fun e => d0 (rat_int_zero e)
          have f1 : Rat.divInt (v.num * num.den - num.num * coef B k * v.den) ((v.den : Int) * (num.den : Int)) * (((v.den : Int) * (num.den : Int) : Int) : Rat) = ((v.num * num.den - num.num * coef B k * v.den : Int) : Rat) := by
            rw [Rat.divInt_eq_div, Rat.div_mul_cancel d0']
          have f2 : (v - num * (coef B k : Rat)) * (((v.den : Int) * (num.den : Int) : Int) : Rat) = ((v.num * num.den - num.num * coef B k * v.den : Int) : Rat) := by
            rw [Rat.intCast_sub, Rat.intCast_mul, Rat.intCast_mul, Rat.intCast_mul, Rat.intCast_mul, num_eqQ v, num_eqQ num]
            grind
          have f3 := f1.trans f2.symm
          generalize (((v.den : Int) * (num.den : Int) : Int) : Rat) = w at *
          have := congrArg (fun y => y * w⁻¹) f3
          simp only [Rat.mul_assoc, Rat.mul_inv_cancel w d0', Rat.mul_one] at this
          exact this
        simp -dsimp [a1, a2, at_n' hk, c1, c2, c3, c4, z2, n3, n4, q2]
        refine hold ⟨_, _, _, _, rfl, by simpa using hl, fun i => ?_⟩
        rw [qc_set hm', hx i]
        by_cases e : i = a + k
        · subst e
          rw [if_pos rfl, if_pos (by omega), Nat.add_sub_cancel_left, hv]
        · rw [if_neg e]
          by_cases g : a ≤ i ∧ i - a < k
          · rw [if_pos g, if_pos (by omega)]
          · rw [if_neg g, if_neg (by omega)]
      · rintro e ⟨ls', s7, s8, s9, rfl, hl, hx⟩
        have hx' : ∀ i, qc ls' i = qc ls i - (if a ≤ i then num * (coef B (i - a) : Rat) else 0) := fun i => by
          rw [hx i]
          by_cases g : a ≤ i
          · rw [if_pos g]
            by_cases g2 : i - a < B.length
            · rw [if_pos ⟨g, g2⟩]
            · rw [if_neg (fun w => g2 w.2), coef_ge (p := B) (by omega), show ((0 : Int) : Rat) = 0 from rfl, Rat.mul_zero]
              grind
          · rw [if_neg g, if_neg (fun w => g w.1)]
            grind
        have q0 : qc qs a = 0 := hq a (by omega)
        simp -dsimp
        refine hold ⟨_, _, _, _, _, _, _, _, rfl, hl, by simpa using lq, fun k => ?_, fun k hk => ?_, fun k hk => ?_, fun k => ?_⟩
        · have e1 : qc (qs.set a num) = fun i => qc qs i + (if i = a then num else 0) := by
            funext i
            rw [qc_set (by omega)]
            by_cases e : i = a
            · rw [if_pos e, if_pos e, e, q0, Rat.zero_add]
            · rw [if_neg e, if_neg e, Rat.add_zero]
          rw [e1, cv_add, cv_mono, hx' k, hd k]
          grind
        · rw [hx' k, if_pos (by omega)]
          by_cases e : k = a + m
          · subst e
            rw [Nat.add_sub_cancel_left, nl, htop]
            grind
          · rw [hz k (by omega), coef_ge (p := B) (by omega), show ((0 : Int) : Rat) = 0 from rfl, Rat.mul_zero]
            grind
        · rw [qc_set (by omega), if_neg (by omega)]
          exact hq k (by omega)
        · obtain ⟨z, hzz, bzz⟩ := hs k
          rw [hx' k]
          by_cases g : a ≤ k
          · rw [if_pos g]
            refine ⟨z * coef B m - zt * coef B (k - a), ?_, ?_⟩
            · rw [Int.pow_succ, Rat.intCast_sub, Rat.intCast_mul, Rat.intCast_mul, Rat.intCast_mul, ← hzz, ← hzt, ← nl]
              grind
            · have y1 : (z * coef B m).natAbs ≤ 2 ^ (t + (s + 1) * j) * 2 ^ s := by
                rw [Int.natAbs_mul]
                exact Nat.mul_le_mul bzz (bs m)
              have y2 : (zt * coef B (k - a)).natAbs ≤ 2 ^ (t + (s + 1) * j) * 2 ^ s := by
                rw [Int.natAbs_mul]
                exact Nat.mul_le_mul bzt (bs _)
              have y3 : 2 ^ (t + (s + 1) * j) * 2 ^ s + 2 ^ (t + (s + 1) * j) * 2 ^ s = 2 ^ (t + (s + 1) * (j + 1)) := by
                rw [← Nat.pow_add, ← Nat.two_mul, Nat.mul_comm, ← Nat.pow_succ]
                congr 1
                rw [Nat.mul_succ]
                omega
              omega
          · rw [if_neg g]
            refine ⟨z * coef B m, ?_, ?_⟩
            · rw [Int.pow_succ, Rat.intCast_mul, Rat.intCast_mul, ← hzz]
              grind
            · rw [Int.natAbs_mul]
              have y1 : z.natAbs * (coef B m).natAbs ≤ 2 ^ (t + (s + 1) * j) * 2 ^ s := Nat.mul_le_mul bzz (bs m)
              have y3 : 2 ^ (t + (s + 1) * j) * 2 ^ s ≤ 2 ^ (t + (s + 1) * (j + 1)) := by
                rw [← Nat.pow_add]
                exact Nat.pow_le_pow_right (by decide) (by rw [Nat.mul_succ]; omega)
              omega
    · cases hx
  · rintro e ⟨ls, qs, s4, s5, s6, s7, s8, s9, rfl, ll, lq, hd, hz, hq, hs⟩
    rw [rangeC_len] at hz hq hs
    have e5 : (B.length : Int) - 1 = (m : Int) := by omega
    have hz' : ∀ k, m ≤ k → qc ls k = 0 := fun k hk => by
      by_cases g : A.length ≤ m
      · exact qc_ge (by omega)
      · exact hz k (by omega)
    simp -dsimp [e5, cutN]
    refine ⟨qs, ls.take m, ⟨rfl, rfl⟩, ⟨by omega, fun k => ?_, fun k hk => ?_⟩, by rw [List.length_take]; omega, fun k => ?_⟩
    · rw [qc_take hz']
      exact hd k
    · rw [qc_take hz']
      exact hz' k (by omega)
    · rw [qc_take hz']
      have z := st_sz (hs k) b0 (bs m)
      refine ⟨Nat.le_trans z.1 (Nat.pow_le_pow_right (by decide) (Nat.mul_le_mul_left _ (by omega))), Nat.le_trans z.2 (Nat.pow_le_pow_right (by decide) ?_)⟩
      have : (s + 1) * L ≤ (s + 1) * A.length := Nat.mul_le_mul_left _ (by omega)
      omega
theorem forQ {rs : List Rat} {e : En} {i : DI} {a : Nat} {s : DS} {D' : DEnds} {f : Fx D'} (hr : ∀ Q : List D → En → Prop, i.run e Q = Q (fL rs) e) (W : Nat → En → Prop) (h0 : W 0 e)
    (hs : ∀ k, k < rs.length → ∀ e1, W k e1 → s.run (D'.lp fun e => HoldF (W (k + 1)) e ⟨⟩) (e1.set a (.sh (frD (qc rs k))))) (hd : ∀ e1, W rs.length e1 → D'.nx e1) : ForF i (gN a) s D' e f :=
  forI (fL rs) e (fun Q q => by rw [hr]; exact q) W h0 (fun k x e1 hx w => by
    rw [fL_at] at hx
    by_cases h : k < rs.length
    · rw [List.getElem?_eq_getElem h] at hx
      cases hx
      have := hs k h e1 w
      rw [qc_lt h] at this
      simpa using this
    · rw [List.getElem?_eq_none (by omega)] at hx
      cases hx) fun e1 w => hd e1 (by rwa [fL_len] at w)
theorem k__law_whole : sp__law_whole.Ok 3 d__law_whole := by
  rintro ⟨rs, u, v⟩ ⟨h1, h2, h3⟩
  have h1 : ∀ r ∈ rs, r.den ≤ 2 ^ u ∧ r.num.natAbs ≤ 2 ^ v := h1
  have h2 : rs.length ≤ 1000000 := h2
  have h3 : (u + 1) * (rs.length + 1) + v ≤ 8000 := h3
  have hr : ∀ k, k < rs.length → (qc rs k).den ≤ 2 ^ u ∧ (qc rs k).num.natAbs ≤ 2 ^ v := fun k hk => by
    rw [qc_lt hk]
    exact h1 _ (List.getElem_mem hk)
  have le0 : (u + 1) * (rs.length + 1) = (u + 1) * rs.length + (u + 1) := Nat.mul_succ _ _
  have le1 : u * rs.length ≤ (u + 1) * rs.length := Nat.mul_le_mul_right _ (by omega)
  simp [entry, sp__law_whole]
  simp -dsimp [d__law_whole]
  refine forQ (rs := rs) (fun Q => by simp) (fun m e => ∃ (b : Nat) (s2 : Sl), e = [.sh (.lst (fL rs)), .sh (.int b), s2] ∧ s2.plain ∧ 0 < b ∧ b ≤ 2 ^ (u * m) ∧ ∀ i, i < m → (qc rs i).den ∣ b) ⟨1, _, rfl, trivial, by decide, Nat.two_pow_pos _, fun i hi => by omega⟩ ?_ ?_
  · rintro m hm e ⟨b, s2, rfl, p2, b0, bb, bd⟩
    obtain ⟨x, hx⟩ : ∃ x, x = qc rs m := ⟨_, rfl⟩
    have xr := hr m hm
    rw [← hx] at xr ⊢
    have le2 : u * (m + 1) ≤ u * rs.length := Nat.mul_le_mul_left _ (by omega)
    have le3 : u * (m + 1) = u * m + u := Nat.mul_succ _ _
    have bz : Sz (u * m + 1) (b : Int) := Nat.lt_of_le_of_lt bb (Nat.pow_lt_pow_right (by decide) (by omega))
    have dz : Sz (u + 1) (x.den : Int) := Nat.lt_of_le_of_lt xr.1 (Nat.pow_lt_pow_right (by decide) (by omega))
    have m1 : IntMulOk (b : Int) (x.den : Int) := bz.mulOk dz (by omega)
    have z1 : Sz 9000 (x.den : Int) := dz.up (by omega)
    have g0 : 0 < Nat.gcd b x.den := Nat.gcd_pos_of_pos_left _ b0
    have gl : Nat.gcd b x.den ≤ x.den := Nat.gcd_le_right _ (Nat.pos_of_ne_zero x.den_nz)
    have eg : Int.gcd (b : Int) (x.den : Int) = Nat.gcd b x.den := rfl
    have d1 : ∀ y, DivOk y (Nat.gcd b x.den : Int) := fun y => Sz.divOk (n := 9000) (Sz.le z1 (by omega)) (by decide) (by omega)
    have e1 : Int.fdiv ((b : Int) * (x.den : Int)) (Nat.gcd b x.den : Int) = ((Nat.lcm b x.den : Nat) : Int) := by
      rw [Int.fdiv_eq_ediv_of_nonneg _ (by omega)]
      rfl
    simp -dsimp [m1, z1, eg, d1, e1]
    have ll : Nat.lcm b x.den ≤ b * x.den := Nat.div_le_self _ _
    refine hold ⟨_, _, rfl, trivial, Nat.lcm_pos b0 (Nat.pos_of_ne_zero x.den_nz), Nat.le_trans ll ?_, fun i hi => ?_⟩
    · rw [le3, Nat.pow_add]
      exact Nat.mul_le_mul bb xr.1
    · by_cases e : i = m
      · subst e
        rw [← hx]
        exact Nat.dvd_lcm_right _ _
      · exact Nat.dvd_trans (bd i (by omega)) (Nat.dvd_lcm_left _ _)
  · rintro e ⟨b, s2, rfl, p2, b0, bb, bd⟩
    have bz : Sz (u * rs.length + 1) (b : Int) := Nat.lt_of_le_of_lt bb (Nat.pow_lt_pow_right (by decide) (by omega))
    simp -dsimp
    refine lcL (fL rs) (rs.map fun r => Int.fdiv (r.num * b) r.den) (by simp) (by simpa using h2) (fun Q => by simp) (by simpa using p2) (fun k hk => ?_) ?_
    · have hk : k < rs.length := by simpa using hk
      have xr := h1 _ (List.getElem_mem hk)
      rw [fL_get hk, coef_lt (by simpa using hk), List.getElem_map]
      have dz : Sz (u + 1) (rs[k].den : Int) := Nat.lt_of_le_of_lt xr.1 (Nat.pow_lt_pow_right (by decide) (by omega))
      have nz : Sz (v + 1) rs[k].num := Nat.lt_of_le_of_lt xr.2 (Nat.pow_lt_pow_right (by decide) (by omega))
      have m1 : IntMulOk rs[k].num (b : Int) := nz.mulOk bz (by omega)
      have d1 : ∀ y, DivOk y (rs[k].den : Int) := fun y => Sz.divOk (n := 9000) (dz.up (by omega)) (by decide) (den_ne _)
      simp -dsimp [m1, d1]
    · have val : ∀ k, (coef (rs.map fun r => Int.fdiv (r.num * b) r.den) k : Rat) = (b : Rat) * qc rs k ∧ Sz 9000 (coef (rs.map fun r => Int.fdiv (r.num * b) r.den) k) := fun k => by
        by_cases hk : k < rs.length
        · have xr := hr k hk
          obtain ⟨y, hy⟩ := bd k hk
          have ne : ((qc rs k).den : Int) ≠ 0 := den_ne _
          have ez : Int.fdiv ((qc rs k).num * (b : Int)) ((qc rs k).den : Int) = (qc rs k).num * (y : Int) := by
            rw [hy, Int.natCast_mul, Int.mul_left_comm, Int.mul_fdiv_cancel_left _ ne]
          rw [coef_lt (by simpa using hk), List.getElem_map, ← qc_lt hk, ez]
          refine ⟨?_, ?_⟩
          · have bq : (b : Rat) = ((qc rs k).den : Rat) * (y : Rat) := by rw [hy]; exact Rat.natCast_mul ..
            have dq : (((qc rs k).den : Int) : Rat) = ((qc rs k).den : Rat) := Rat.intCast_natCast _
            have yq : (((y : Nat) : Int) : Rat) = (y : Rat) := Rat.intCast_natCast _
            rw [Rat.intCast_mul, num_eqQ (qc rs k), bq, dq, yq]
            grind
          · have nz : Sz (v + 1) (qc rs k).num := Nat.lt_of_le_of_lt xr.2 (Nat.pow_lt_pow_right (by decide) (by omega))
            have yb : y ≤ b := by
              rw [hy]
              exact Nat.le_mul_of_pos_left _ (Nat.pos_of_ne_zero (qc rs k).den_nz)
            have yz : Sz (u * rs.length + 1) (y : Int) := Nat.lt_of_le_of_lt yb bz
            exact (nz.mul yz).up (by omega)
        · rw [coef_ge (by simpa using hk), qc_ge (by omega), Rat.mul_zero]
          exact ⟨rfl, Nat.two_pow_pos _⟩
      have tz : ∀ y ∈ trim (rs.map fun r => Int.fdiv (r.num * b) r.den), Sz 9000 y := mem_all fun k => by
        rw [coef_trim]
        exact (val k).2
      have tl := trim_len (rs.map fun r => Int.fdiv (r.num * b) r.den)
      rw [List.length_map] at tl
      simp -dsimp
      exact ⟨⟨by omega, tz⟩, b, b0, _, rfl, fun k => (val k).1⟩
end Dn

set_option Elab.async false
set_option linter.all false
set_option maxRecDepth 100000
set_option maxHeartbeats 4000000
set_option exponentiation.threshold 100000
/-! k04: least, greatest, boxes -/
namespace Dn
open PySem PySem.Spec PyProof.Rows L2
def mnQ (f x : Rat) : Rat := if x < f then x else f
def mxQ (f x : Rat) : Rat := if f < x then x else f
def minQ : List Rat → Rat
  | [] => 0
  | a :: t => t.foldl mnQ a
def maxQ : List Rat → Rat
  | [] => 0
  | a :: t => t.foldl mxQ a
theorem mn_le {f x : Rat} : mnQ f x ≤ f ∧ mnQ f x ≤ x ∧ (mnQ f x = f ∨ mnQ f x = x) := by
  unfold mnQ
  split <;> grind
theorem mx_ge {f x : Rat} : f ≤ mxQ f x ∧ x ≤ mxQ f x ∧ (mxQ f x = f ∨ mxQ f x = x) := by
  unfold mxQ
  split <;> grind
theorem fold_mn {t : List Rat} {a : Rat} : t.foldl mnQ a ≤ a ∧ (∀ x ∈ t, t.foldl mnQ a ≤ x) ∧ (t.foldl mnQ a = a ∨ t.foldl mnQ a ∈ t) := by
  induction t generalizing a with
  | nil => exact ⟨Rat.le_refl, by simp, .inl rfl⟩
  | cons b t ih =>
    obtain ⟨h1, h2, h3⟩ := ih (a := mnQ a b)
    obtain ⟨m1, m2, m3⟩ := mn_le (f := a) (x := b)
    refine ⟨Rat.le_trans h1 m1, fun x hx => ?_, ?_⟩
    · rcases List.mem_cons.mp hx with rfl | hx
      · exact Rat.le_trans h1 m2
      · exact h2 x hx
    · rcases h3 with h3 | h3
      · show t.foldl mnQ (mnQ a b) = a ∨ t.foldl mnQ (mnQ a b) ∈ b :: t
        rw [h3]
        rcases m3 with m3 | m3
        · exact .inl m3
        · exact .inr (by rw [m3]; exact List.mem_cons_self)
      · exact .inr (List.mem_cons_of_mem _ h3)
theorem fold_mx {t : List Rat} {a : Rat} : a ≤ t.foldl mxQ a ∧ (∀ x ∈ t, x ≤ t.foldl mxQ a) ∧ (t.foldl mxQ a = a ∨ t.foldl mxQ a ∈ t) := by
  induction t generalizing a with
  | nil => exact ⟨Rat.le_refl, by simp, .inl rfl⟩
  | cons b t ih =>
    obtain ⟨h1, h2, h3⟩ := ih (a := mxQ a b)
    obtain ⟨m1, m2, m3⟩ := mx_ge (f := a) (x := b)
    refine ⟨Rat.le_trans m1 h1, fun x hx => ?_, ?_⟩
    · rcases List.mem_cons.mp hx with rfl | hx
      · exact Rat.le_trans m2 h1
      · exact h2 x hx
    · rcases h3 with h3 | h3
      · show t.foldl mxQ (mxQ a b) = a ∨ t.foldl mxQ (mxQ a b) ∈ b :: t
        rw [h3]
        rcases m3 with m3 | m3
        · exact .inl m3
        · exact .inr (by rw [m3]; exact List.mem_cons_self)
      · exact .inr (List.mem_cons_of_mem _ h3)
theorem minQ_le {xs : List Rat} {x : Rat} (h : x ∈ xs) : minQ xs ≤ x := by
  cases xs with
  | nil => cases h
  | cons a t =>
    rcases List.mem_cons.mp h with rfl | h
    · exact fold_mn.1
    · exact fold_mn.2.1 x h
theorem maxQ_ge {xs : List Rat} {x : Rat} (h : x ∈ xs) : x ≤ maxQ xs := by
  cases xs with
  | nil => cases h
  | cons a t =>
    rcases List.mem_cons.mp h with rfl | h
    · exact fold_mx.1
    · exact fold_mx.2.1 x h
theorem minQ_mem {xs : List Rat} (h : xs ≠ []) : minQ xs ∈ xs := by
  cases xs with
  | nil => exact absurd rfl h
  | cons a t =>
    rcases (fold_mn (t := t) (a := a)).2.2 with e | e
    · show t.foldl mnQ a ∈ _
      rw [e]; exact List.mem_cons_self
    · exact List.mem_cons_of_mem _ e
theorem maxQ_mem {xs : List Rat} (h : xs ≠ []) : maxQ xs ∈ xs := by
  cases xs with
  | nil => exact absurd rfl h
  | cons a t =>
    rcases (fold_mx (t := t) (a := a)).2.2 with e | e
    · show t.foldl mxQ a ∈ _
      rw [e]; exact List.mem_cons_self
    · exact List.mem_cons_of_mem _ e
theorem minQ_eq {xs ys : List Rat} (hx : xs ≠ []) (h : ∀ x, x ∈ xs ↔ x ∈ ys) : minQ xs = minQ ys := by
  have hy : ys ≠ [] := fun e => by
    have := (h _).mp (minQ_mem hx)
    rw [e] at this; cases this
  exact Rat.le_antisymm (minQ_le ((h _).mpr (minQ_mem hy))) (minQ_le ((h _).mp (minQ_mem hx)))
theorem maxQ_eq {xs ys : List Rat} (hx : xs ≠ []) (h : ∀ x, x ∈ xs ↔ x ∈ ys) : maxQ xs = maxQ ys := by
  have hy : ys ≠ [] := fun e => by
    have := (h _).mp (maxQ_mem hx)
    rw [e] at this; cases this
  exact Rat.le_antisymm (maxQ_ge ((h _).mp (maxQ_mem hx))) (maxQ_ge ((h _).mpr (maxQ_mem hy)))
def sp_least_of : Spec := ⟨List Rat, fun x => [.lst (fL x)], fun x => x ≠ [] ∧ x.length ≤ 1000 ∧ ∀ r ∈ x, RSz 4000 r, fun x r => r = .sh (frD (minQ x))⟩
def sp_greatest_of : Spec := ⟨List Rat, fun x => [.lst (fL x)], fun x => x ≠ [] ∧ x.length ≤ 1000 ∧ ∀ r ∈ x, RSz 4000 r, fun x r => r = .sh (frD (maxQ x))⟩
def bxD (l h : Rat) : D := .tup [frD l, frD h]
def sp__law_plus : Spec := sp_plus
def sp__law_times : Spec := sp_times
def sp__law_less : Spec := .det (Rat × Rat) (fun x => [frD x.1, frD x.2]) (fun x => RSz 4000 x.1 ∧ RSz 4000 x.2) fun x => .sh (.bl (decide (x.1 < x.2)))
def sp__law_hull : Spec := ⟨List Rat, fun x => [.lst (fL x)], fun x => x ≠ [] ∧ x.length ≤ 1000 ∧ ∀ r ∈ x, RSz 4000 r, fun x r => r = .sh (bxD (minQ x) (maxQ x))⟩
def d_least_of : DS :=
  (sSeq (sSet 1 (eOp ixR (eVar 0) (eC (.int 0))))
  (sSeq (sFor (iSeq (eSl (eVar 0) (oSome (eC (.int 1))) oNone)) (gN 2) (sIf (tB (eOp ltR (eCall sp_compare (aCons (eVar 2) (aCons (eVar 1) aNil))) (eC (.int 0)))) (sSet 1 (eVar 2)) sNext))
  (sRet (eVar 1))))

def d_greatest_of : DS :=
  (sSeq (sSet 1 (eOp ixR (eVar 0) (eC (.int 0))))
  (sSeq (sFor (iSeq (eSl (eVar 0) (oSome (eC (.int 1))) oNone)) (gN 2) (sIf (tB (eOp gtR (eCall sp_compare (aCons (eVar 2) (aCons (eVar 1) aNil))) (eC (.int 0)))) (sSet 1 (eVar 2)) sNext))
  (sRet (eVar 1))))

def d__law_plus : DS :=
  (sRet (eCall sp__law_ratio (aCons (eOp addR (eOp mulR (eOp ixR (eVar 0) (eC (.int 0))) (eOp ixR (eVar 1) (eC (.int 1)))) (eOp mulR (eOp ixR (eVar 1) (eC (.int 0))) (eOp ixR (eVar 0) (eC (.int 1))))) (aCons (eOp mulR (eOp ixR (eVar 0) (eC (.int 1))) (eOp ixR (eVar 1) (eC (.int 1)))) aNil))))

def d__law_times : DS :=
  (sRet (eCall sp__law_ratio (aCons (eOp mulR (eOp ixR (eVar 0) (eC (.int 0))) (eOp ixR (eVar 1) (eC (.int 0)))) (aCons (eOp mulR (eOp ixR (eVar 0) (eC (.int 1))) (eOp ixR (eVar 1) (eC (.int 1)))) aNil))))

def d__law_less : DS :=
  (sRet (eOp ltR (eOp mulR (eOp ixR (eVar 0) (eC (.int 0))) (eOp ixR (eVar 1) (eC (.int 1)))) (eOp mulR (eOp ixR (eVar 1) (eC (.int 0))) (eOp ixR (eVar 0) (eC (.int 1))))))

def d__law_hull : DS :=
  (sSeq (sSet 1 (eOp ixR (eVar 0) (eC (.int 0))))
  (sSeq (sSet 2 (eOp ixR (eVar 0) (eC (.int 0))))
  (sSeq (sFor (iSeq (eVar 0)) (gN 3) (sSeq (sSet 1 (eIf (tTru (eCall sp__law_less (aCons (eVar 3) (aCons (eVar 1) aNil)))) (eVar 3) (eVar 1)))
  (sSet 2 (eIf (tTru (eCall sp__law_less (aCons (eVar 2) (aCons (eVar 3) aNil)))) (eVar 3) (eVar 2)))))
  (sRet (eTup (aCons (eVar 1) (aCons (eVar 2) aNil)))))))

theorem cmp_neg' {x y : Rat} : (cmpR x y < 0) = (x < y) := by
  unfold cmpR
  split
  · simp [*]
  · split
    · simp [*]
    · simp [*]
theorem cmp_pos' {x y : Rat} : (0 < cmpR x y) = (y < x) := by
  unfold cmpR
  split
  · have : ¬ y < x := by grind
    simp [this]
  · split
    · simp [*]
    · simp [*]
theorem cutF1 {xs : List Rat} : cutD (fL xs) (some 1) none = fL (xs.drop 1) := by
  unfold cutD
  have e : HT.sIx (fL xs).length 0 (some 1) = min 1 (fL xs).length := HT.sIx_nat _ _ 1
  rw [e, HT.sIx_none, List.take_of_length_le (by simp)]
  show (xs.map frD).drop _ = (xs.drop 1).map frD
  rw [List.map_drop, fL_len]
  by_cases h : 1 ≤ xs.length
  · rw [Nat.min_eq_left h]
  · rw [List.drop_eq_nil_of_le (by simp; omega), List.drop_eq_nil_of_le (by simp; omega)]
theorem fold_take {f : Rat → Rat → Rat} {t : List Rat} {a : Rat} {k : Nat} (h : k < t.length) : (t.take (k + 1)).foldl f a = f ((t.take k).foldl f a) (qc t k) := by
  rw [List.take_succ_eq_append_getElem h, List.foldl_append, qc_lt h]
  rfl
theorem k_least_of : sp_least_of.Ok 3 d_least_of := by
  rintro (xs : List Rat) ⟨h1, h2, h3⟩
  have h1 : xs ≠ [] := h1
  have h2 : xs.length ≤ 1000 := h2
  have h3 : ∀ r ∈ xs, RSz 4000 r := h3
  obtain ⟨a, t, rfl⟩ := List.exists_cons_of_ne_nil h1
  have ra : RSz 4000 a := h3 a List.mem_cons_self
  have rt : ∀ r ∈ t, RSz 4000 r := fun r hr => h3 r (List.mem_cons_of_mem _ hr)
  simp [entry, sp_least_of]
  simp -dsimp [d_least_of]
  refine forQ (rs := t) (fun Q => by simp [cutF1]) (fun m e => ∃ s2, e = [.sh (.lst (fL (a :: t))), .sh (frD ((t.take m).foldl mnQ a)), s2]) ⟨_, rfl⟩ ?_ ?_
  · rintro m hm e ⟨s2, rfl⟩
    have rm : RSz 400000 ((t.take m).foldl mnQ a) := by
      rcases (fold_mn (t := t.take m) (a := a)).2.2 with e | e
      · rw [e]; exact ra.up (by decide)
      · exact (rt _ (List.mem_of_mem_take e)).up (by decide)
    have rq : RSz 400000 (qc t m) := by rw [qc_lt hm]; exact (rt _ (List.getElem_mem hm)).up (by decide)
    simp -dsimp [rm, rq, cmp_neg']
    rw [fold_take hm]
    by_cases g : qc t m < (t.take m).foldl mnQ a
    · rw [if_pos g]
      exact hold ⟨.sh (frD (qc t m)), by
        have : mnQ ((t.take m).foldl mnQ a) (qc t m) = qc t m := if_pos g
        rw [this]⟩
    · rw [if_neg g]
      exact hold ⟨.sh (frD (qc t m)), by
        have : mnQ ((t.take m).foldl mnQ a) (qc t m) = (t.take m).foldl mnQ a := if_neg g
        rw [this]⟩
  · rintro e ⟨s2, rfl⟩
    simp -dsimp
    rfl
theorem k_greatest_of : sp_greatest_of.Ok 3 d_greatest_of := by
  rintro (xs : List Rat) ⟨h1, h2, h3⟩
  have h1 : xs ≠ [] := h1
  have h2 : xs.length ≤ 1000 := h2
  have h3 : ∀ r ∈ xs, RSz 4000 r := h3
  obtain ⟨a, t, rfl⟩ := List.exists_cons_of_ne_nil h1
  have ra : RSz 4000 a := h3 a List.mem_cons_self
  have rt : ∀ r ∈ t, RSz 4000 r := fun r hr => h3 r (List.mem_cons_of_mem _ hr)
  simp [entry, sp_greatest_of]
  simp -dsimp [d_greatest_of]
  refine forQ (rs := t) (fun Q => by simp [cutF1]) (fun m e => ∃ s2, e = [.sh (.lst (fL (a :: t))), .sh (frD ((t.take m).foldl mxQ a)), s2]) ⟨_, rfl⟩ ?_ ?_
  · rintro m hm e ⟨s2, rfl⟩
    have rm : RSz 400000 ((t.take m).foldl mxQ a) := by
      rcases (fold_mx (t := t.take m) (a := a)).2.2 with e | e
      · rw [e]; exact ra.up (by decide)
      · exact (rt _ (List.mem_of_mem_take e)).up (by decide)
    have rq : RSz 400000 (qc t m) := by rw [qc_lt hm]; exact (rt _ (List.getElem_mem hm)).up (by decide)
    simp -dsimp [rm, rq, cmp_pos']
    rw [fold_take hm]
    by_cases g : (t.take m).foldl mxQ a < qc t m
    · rw [if_pos g]
      exact hold ⟨.sh (frD (qc t m)), by
        have : mxQ ((t.take m).foldl mxQ a) (qc t m) = qc t m := if_pos g
        rw [this]⟩
    · rw [if_neg g]
      exact hold ⟨.sh (frD (qc t m)), by
        have : mxQ ((t.take m).foldl mxQ a) (qc t m) = (t.take m).foldl mxQ a := if_neg g
        rw [this]⟩
  · rintro e ⟨s2, rfl⟩
    simp -dsimp
    rfl
theorem k__law_plus : sp__law_plus.Ok 2 d__law_plus := by
  rintro ⟨x, y⟩ ⟨hx, hy⟩
  have hx : RSz 4000 x := hx
  have hy : RSz 4000 y := hy
  simp [entry, sp__law_plus, sp_plus, Spec.det]
  simp -dsimp [d__law_plus]
  exact ⟨hx.num.mulOk hy.den (by decide), hy.num.mulOk hx.den (by decide), hx.den.mulOk hy.den (by decide), ⟨⟨x.den_nz, y.den_nz⟩, Sz.up (hx.den.mul hy.den) (by decide)⟩, add_divInt x y⟩
theorem k__law_times : sp__law_times.Ok 2 d__law_times := by
  rintro ⟨x, y⟩ ⟨hx, hy⟩
  have hx : RSz 4000 x := hx
  have hy : RSz 4000 y := hy
  simp [entry, sp__law_times, sp_times, Spec.det]
  simp -dsimp [d__law_times]
  exact ⟨hx.num.mulOk hy.num (by decide), hx.den.mulOk hy.den (by decide), ⟨⟨x.den_nz, y.den_nz⟩, Sz.up (hx.den.mul hy.den) (by decide)⟩, mul_divInt x y⟩
theorem k__law_less : sp__law_less.Ok 2 d__law_less := by
  rintro ⟨x, y⟩ ⟨hx, hy⟩
  have hx : RSz 4000 x := hx
  have hy : RSz 4000 y := hy
  simp [entry, sp__law_less, Spec.det]
  simp -dsimp [d__law_less]
  refine ⟨hx.num.mulOk hy.den (by decide), hy.num.mulOk hx.den (by decide), ?_⟩
  exact (Rat.lt_iff x y).symm
section
variable {Q : Rv → Prop} {f : Fx Q}
@[simp ↓] theorem c__law_plus {a b : Rat} : sp__law_plus.Run [frD a, frD b] Q f = ((RSz 4000 a ∧ RSz 4000 b) ∧ Q (.sh (frD (a + b)))) := c_plus
@[simp ↓] theorem c__law_times {a b : Rat} : sp__law_times.Run [frD a, frD b] Q f = ((RSz 4000 a ∧ RSz 4000 b) ∧ Q (.sh (frD (a * b)))) := c_times
@[simp ↓] theorem c__law_less {a b : Rat} : sp__law_less.Run [frD a, frD b] Q f = ((RSz 4000 a ∧ RSz 4000 b) ∧ Q (.sh (.bl (decide (a < b))))) := Spec.det_run (fun _ _ => inj_ff) (a, b)
theorem c_least_of {xs : List Rat} (h : xs ≠ [] ∧ xs.length ≤ 1000 ∧ ∀ r ∈ xs, RSz 4000 r) (q : Q (.sh (frD (minQ xs)))) : sp_least_of.Run [.lst (fL xs)] Q f :=
  Spec.go sp_least_of xs rfl h fun r hr => by cases hr; exact q
theorem c_greatest_of {xs : List Rat} (h : xs ≠ [] ∧ xs.length ≤ 1000 ∧ ∀ r ∈ xs, RSz 4000 r) (q : Q (.sh (frD (maxQ xs)))) : sp_greatest_of.Run [.lst (fL xs)] Q f :=
  Spec.go sp_greatest_of xs rfl h fun r hr => by cases hr; exact q
theorem c__law_hull {xs : List Rat} (h : xs ≠ [] ∧ xs.length ≤ 1000 ∧ ∀ r ∈ xs, RSz 4000 r) (q : Q (.sh (bxD (minQ xs) (maxQ xs)))) : sp__law_hull.Run [.lst (fL xs)] Q f :=
  Spec.go sp__law_hull xs rfl h fun r hr => by cases hr; exact q
end
theorem k__law_hull : sp__law_hull.Ok 4 d__law_hull := by
  rintro (xs : List Rat) ⟨h1, h2, h3⟩
  have h1 : xs ≠ [] := h1
  have h2 : xs.length ≤ 1000 := h2
  have h3 : ∀ r ∈ xs, RSz 4000 r := h3
  obtain ⟨a, t, rfl⟩ := List.exists_cons_of_ne_nil h1
  have ra : RSz 4000 a := h3 a List.mem_cons_self
  have e0 : ∀ f : Rat → Rat → Rat, f a a = a → (a :: t).foldl f a = t.foldl f a := fun f h => by rw [List.foldl_cons, h]
  have s0 : mnQ a a = a := by unfold mnQ; split <;> rfl
  have s1 : mxQ a a = a := by unfold mxQ; split <;> rfl
  have at0 : (fL (a :: t))[0]? = some (frD a) := rfl
  simp [entry, sp__law_hull]
  simp -dsimp [d__law_hull]
  refine forQ (rs := a :: t) (fun Q => by simp) (fun m e => ∃ s2, e = [.sh (.lst (fL (a :: t))), .sh (frD (((a :: t).take m).foldl mnQ a)), .sh (frD (((a :: t).take m).foldl mxQ a)), s2]) ⟨_, rfl⟩ ?_ ?_
  · rintro m hm e ⟨s2, rfl⟩
    have rm : RSz 4000 (((a :: t).take m).foldl mnQ a) := by
      rcases (fold_mn (t := (a :: t).take m) (a := a)).2.2 with e | e
      · rw [e]; exact ra
      · exact h3 _ (List.mem_of_mem_take e)
    have rx : RSz 4000 (((a :: t).take m).foldl mxQ a) := by
      rcases (fold_mx (t := (a :: t).take m) (a := a)).2.2 with e | e
      · rw [e]; exact ra
      · exact h3 _ (List.mem_of_mem_take e)
    have rq : RSz 4000 (qc (a :: t) m) := by rw [qc_lt hm]; exact h3 _ (List.getElem_mem hm)
    rw [fold_take hm, fold_take hm]
    generalize ((a :: t).take m).foldl mnQ a = u at *
    generalize ((a :: t).take m).foldl mxQ a = v at *
    generalize qc (a :: t) m = z at *
    by_cases g1 : z < u
    · by_cases g2 : v < z
      · simp -dsimp [rm, rx, rq, g1, g2]
        exact hold ⟨_, by unfold mnQ mxQ; rw [if_pos g1, if_pos g2]⟩
      · simp -dsimp [rm, rx, rq, g1, g2]
        exact hold ⟨_, by unfold mnQ mxQ; rw [if_pos g1, if_neg g2]⟩
    · by_cases g2 : v < z
      · simp -dsimp [rm, rx, rq, g1, g2]
        exact hold ⟨_, by unfold mnQ mxQ; rw [if_neg g1, if_pos g2]⟩
      · simp -dsimp [rm, rx, rq, g1, g2]
        exact hold ⟨_, by unfold mnQ mxQ; rw [if_neg g1, if_neg g2]⟩
  · rintro e ⟨s2, rfl⟩
    rw [List.take_length, e0 _ s0, e0 _ s1]
    simp -dsimp
    rfl
end Dn

set_option Elab.async false
set_option linter.all false
set_option maxRecDepth 100000
set_option maxHeartbeats 4000000
set_option exponentiation.threshold 100000
/-! common denominators, powers, small facts -/
namespace Dn
open PySem PySem.Spec PyProof.Rows L2
theorem SgQ_shift {n : Nat} {f : Nat → Rat} : SgQ (n + 1) f = f 0 + SgQ n fun k => f (k + 1) := by
  induction n with
  | zero => rw [SgQ_s, SgQ_0, SgQ_0]; grind
  | succ n ih => rw [SgQ_s, ih, SgQ_s]; grind
theorem icast_pow (a : Int) (n : Nat) : ((a ^ n : Int) : Rat) = (a : Rat) ^ n := by
  induction n with
  | zero => rw [Rat.pow_zero, Int.pow_zero]; rfl
  | succ n ih => rw [Int.pow_succ, Rat.intCast_mul, ih, Rat.pow_succ]
theorem rmul_pow (a b : Rat) (n : Nat) : (a * b) ^ n = a ^ n * b ^ n := by
  induction n with
  | zero => rw [Rat.pow_zero, Rat.pow_zero, Rat.pow_zero, Rat.mul_one]
  | succ n ih =>
    rw [Rat.pow_succ, Rat.pow_succ, Rat.pow_succ, ih]
    grind
theorem rpow_add (a : Rat) (m n : Nat) : a ^ (m + n) = a ^ m * a ^ n := by
  induction n with
  | zero => rw [Rat.pow_zero, Nat.add_zero, Rat.mul_one]
  | succ n ih => rw [← Nat.add_assoc, Rat.pow_succ, Rat.pow_succ, ih, Rat.mul_assoc]
theorem rpow_ne {a : Rat} (h : a ≠ 0) (n : Nat) : a ^ n ≠ 0 := by
  induction n with
  | zero => rw [Rat.pow_zero]; decide
  | succ n ih =>
    rw [Rat.pow_succ]
    intro h'
    rcases Rat.mul_eq_zero.mp h' with h' | h'
    · exact ih h'
    · exact h h'
theorem rat_neg_num {r : Rat} : D.tup [.int (-r.num), .int r.den] = frD (-r) := by
  unfold frD
  rw [Rat.neg_num, Rat.neg_den]
theorem sz_16 {x : Int} (h : x.natAbs < 2 ^ 4) : Sz 9000 x := Nat.lt_of_lt_of_le h (Nat.pow_le_pow_right (by decide) (by decide))
theorem rsz_pow {n m : Nat} {r : Rat} (h : RSz n r) : RSz (n * m + 1) (r ^ m) := by
  refine ⟨?_, ?_⟩
  · rw [Rat.num_pow]
    exact pow_sz h.num
  · have := pow_sz (m := m) h.den
    rw [Rat.den_pow]
    have e : (((r.den : Int) ^ m)).natAbs = r.den ^ m := by rw [Int.natAbs_pow]; rfl
    unfold Sz at this
    rwa [e] at this
/-- x is a whole number of at most B over M -/
def Fb (M B : Nat) (x : Rat) : Prop := 0 < M ∧ ∃ z : Int, z.natAbs ≤ B ∧ x * (M : Rat) = (z : Rat)
theorem fb_eq {M B : Nat} {x : Rat} (h : Fb M B x) : ∃ z : Int, z.natAbs ≤ B ∧ x = Rat.divInt z M := by
  obtain ⟨h0, z, hz, e⟩ := h
  refine ⟨z, hz, ?_⟩
  have m0 : (M : Rat) ≠ 0 := fun w => by
    have := Rat.natCast_pos.mpr h0
    rw [w] at this
    exact absurd this Rat.lt_irrefl
  have e2 : (((M : Nat) : Int) : Rat) = (M : Rat) := Rat.intCast_natCast _
  rw [Rat.divInt_eq_div, ← e, e2, Rat.div_def, Rat.mul_assoc, Rat.mul_inv_cancel _ m0, Rat.mul_one]
theorem fb_sz {M B : Nat} {x : Rat} (h : Fb M B x) : x.den ≤ M ∧ x.num.natAbs ≤ B := by
  obtain ⟨z, hz, e⟩ := fb_eq h
  obtain ⟨h0, _⟩ := h
  obtain ⟨h1, h2⟩ := divInt_le (p := z) (q := (M : Int)) (by omega)
  rw [e]
  exact ⟨by omega, Nat.le_trans h2 hz⟩
theorem fb_rsz {M B n : Nat} {x : Rat} (h : Fb M B x) (hM : M < 2 ^ n) (hB : B < 2 ^ n) : RSz n x := by
  obtain ⟨h1, h2⟩ := fb_sz h
  exact ⟨Nat.lt_of_le_of_lt h2 hB, Nat.lt_of_le_of_lt h1 hM⟩
theorem fb_up {M B C : Nat} {x : Rat} (h : Fb M B x) (l : B ≤ C) : Fb M C x := by
  obtain ⟨h0, z, hz, e⟩ := h
  exact ⟨h0, z, Nat.le_trans hz l, e⟩
theorem fb_add {M B C : Nat} {x y : Rat} (h : Fb M B x) (h' : Fb M C y) : Fb M (B + C) (x + y) := by
  obtain ⟨h0, z, hz, e⟩ := h
  obtain ⟨_, w, hw, e'⟩ := h'
  refine ⟨h0, z + w, by omega, ?_⟩
  rw [Rat.add_mul, e, e', Rat.intCast_add]
theorem fb_neg {M B : Nat} {x : Rat} (h : Fb M B x) : Fb M B (-x) := by
  obtain ⟨h0, z, hz, e⟩ := h
  refine ⟨h0, -z, by omega, ?_⟩
  rw [Rat.neg_mul, e, Rat.intCast_neg]
theorem fb_mul {M N B C : Nat} {x y : Rat} (h : Fb M B x) (h' : Fb N C y) : Fb (M * N) (B * C) (x * y) := by
  obtain ⟨h0, z, hz, e⟩ := h
  obtain ⟨h1, w, hw, e'⟩ := h'
  refine ⟨Nat.mul_pos h0 h1, z * w, by rw [Int.natAbs_mul]; exact Nat.mul_le_mul hz hw, ?_⟩
  rw [Rat.natCast_mul, Rat.intCast_mul, ← e, ← e']
  grind
theorem fb_sc {M B : Nat} {x : Rat} (k : Nat) (hk : 0 < k) (h : Fb M B x) : Fb (M * k) (B * k) x := by
  obtain ⟨h0, z, hz, e⟩ := h
  refine ⟨Nat.mul_pos h0 hk, z * k, by rw [Int.natAbs_mul]; exact Nat.mul_le_mul hz (by simp), ?_⟩
  have e2 : (((k : Nat) : Int) : Rat) = (k : Rat) := Rat.intCast_natCast _
  rw [Rat.natCast_mul, Rat.intCast_mul, ← e, e2]
  grind
theorem fb_pow {M B : Nat} {x : Rat} (h : Fb M B x) (k : Nat) : Fb (M ^ k) (B ^ k) (x ^ k) := by
  induction k with
  | zero => rw [Nat.pow_zero, Nat.pow_zero, Rat.pow_zero]; exact ⟨by decide, 1, by decide, by decide +kernel⟩
  | succ k ih => rw [Nat.pow_succ, Nat.pow_succ, Rat.pow_succ]; exact fb_mul ih h
theorem fb_int (c : Int) : Fb 1 c.natAbs (c : Rat) := ⟨by decide, c, Nat.le_refl _, Rat.mul_one _⟩
theorem fb_zero {M B : Nat} (h : 0 < M) : Fb M B 0 := ⟨h, 0, Nat.zero_le _, Rat.zero_mul _⟩
/-- a term of degree k, over the N-th power -/
theorem fb_term {M B C N k : Nat} {c : Int} {y : Rat} (hM : 0 < M) (hB : 0 < B) (hc : c.natAbs ≤ C) (hk : k ≤ N) (hy : Fb (M ^ k) (B ^ k) y) : Fb (M ^ N) (C * (B * M) ^ N) ((c : Rat) * y) := by
  have h1 := fb_sc (M ^ (N - k)) (Nat.pow_pos hM) (fb_mul (fb_up (fb_int c) hc) hy)
  rw [Nat.one_mul, ← Nat.pow_add, show k + (N - k) = N by omega] at h1
  refine fb_up h1 ?_
  rw [Nat.mul_pow, Nat.mul_assoc]
  refine Nat.mul_le_mul_left _ (Nat.mul_le_mul (Nat.pow_le_pow_right hB hk) (Nat.pow_le_pow_right hM (by omega)))
theorem rat_fb' {a d k : Int} {N : Nat} (hd : 0 < d) (hk : d * k = 2520) (ha : a.natAbs ≤ N) : Fb 2520 (N * 2520) (Rat.divInt a d) := by
  have k0 : 0 ≤ k := by
    by_cases z : 0 ≤ k
    · exact z
    · have := Int.mul_le_mul_of_nonneg_left (show k ≤ -1 by omega) (Int.le_of_lt hd)
      omega
  have k1 : k ≤ 2520 := by
    have := Int.mul_le_mul_of_nonneg_right (show 1 ≤ d by omega) k0
    omega
  have d0 : (d : Rat) ≠ 0 := fun w => by
    have := Rat.intCast_pos.mpr hd
    rw [w] at this
    exact absurd this Rat.lt_irrefl
  refine ⟨by decide, a * k, ?_, ?_⟩
  · rw [Int.natAbs_mul]
    exact Nat.mul_le_mul ha (by omega)
  · have e : ((2520 : Nat) : Rat) = (d : Rat) * (k : Rat) := by
      rw [← Rat.intCast_mul, hk]
      rfl
    rw [e, Rat.divInt_eq_div, ← Rat.mul_assoc, Rat.div_mul_cancel d0, Rat.intCast_mul]
theorem rat_fb {a d : Int} {N : Nat} (h1 : 1 ≤ d) (h9 : d ≤ 9) (ha : a.natAbs ≤ N) : Fb 2520 (N * 2520) (Rat.divInt a d) := by
  have : d = 1 ∨ d = 2 ∨ d = 3 ∨ d = 4 ∨ d = 5 ∨ d = 6 ∨ d = 7 ∨ d = 8 ∨ d = 9 := by omega
  rcases this with rfl | rfl | rfl | rfl | rfl | rfl | rfl | rfl | rfl
  · exact rat_fb' (k := 2520) (by decide) (by decide) ha
  · exact rat_fb' (k := 1260) (by decide) (by decide) ha
  · exact rat_fb' (k := 840) (by decide) (by decide) ha
  · exact rat_fb' (k := 630) (by decide) (by decide) ha
  · exact rat_fb' (k := 504) (by decide) (by decide) ha
  · exact rat_fb' (k := 420) (by decide) (by decide) ha
  · exact rat_fb' (k := 360) (by decide) (by decide) ha
  · exact rat_fb' (k := 315) (by decide) (by decide) ha
  · exact rat_fb' (k := 280) (by decide) (by decide) ha
theorem frz_ints {ns : List Int} : D.frz (ns.map D.int) = intsD ns := rfl
theorem atI_3' {α : Type} (xs : List α) : atI xs 3 = xs[3]? := atI_of xs 3
theorem atI_4' {α : Type} (xs : List α) : atI xs 4 = xs[4]? := atI_of xs 4
end Dn

set_option Elab.async false
set_option linter.all false
set_option maxRecDepth 100000
set_option maxHeartbeats 4000000
set_option exponentiation.threshold 100000
/-! primitive forms: multiples, signs -/
namespace Dn
open PySem PySem.Spec PyProof.Rows L2
theorem coef_neg {p : List Int} {k : Nat} : coef (p.map fun x => -x) k = -coef p k := coef_map (f := fun x => -x) rfl
theorem tr_len {p : List Int} {m : Nat} (h : Tr p) (hm : p.length = m + 1) : coef p m ≠ 0 := by
  rcases h with rfl | h
  · cases hm
  · intro z
    refine h ?_
    rw [last_coef hm, z]
theorem tr_of_last {p : List Int} {m : Nat} (hm : p.length = m + 1) (h : coef p m ≠ 0) : Tr p := .inr (by
  rw [last_coef hm]
  intro z
  exact h (Option.some.inj z))
theorem low_coef (p : List Int) : ∃ c : Nat, 0 < c ∧ ∀ k, (c : Int) * coef (lowL p) k = coef p k := by
  obtain ⟨c, h0, h⟩ := low_scale p
  refine ⟨c, h0, fun k => ?_⟩
  have e := congrArg (fun x => coef x k) h
  rwa [show coef ((lowL p).map fun x => (c : Int) * x) k = (c : Int) * coef (lowL p) k from coef_map (f := fun x => (c : Int) * x) (Int.mul_zero _)] at e
theorem prm_len {p : List Int} : (prmL p).length = p.length := by
  unfold prmL
  split
  · simp
  · rfl
theorem prm_tr {p : List Int} (h : Tr p) : Tr (prmL p) := by
  unfold prmL
  split
  · exact neg_tr h
  · exact h
theorem prm_coef (p : List Int) : ∃ s : Int, (s = 1 ∨ s = -1) ∧ ∀ k, coef (prmL p) k = s * coef p k := by
  unfold prmL
  split
  · exact ⟨-1, .inr rfl, fun k => by rw [coef_neg]; omega⟩
  · exact ⟨1, .inl rfl, fun k => (Int.one_mul _).symm⟩
/-- the primitive form as a multiple -/
theorem prml_coef (p : List Int) : ∃ c : Int, c ≠ 0 ∧ ∀ k, c * coef (prmL (lowL p)) k = coef p k := by
  obtain ⟨c, c0, hc⟩ := low_coef p
  obtain ⟨s, hs, h⟩ := prm_coef (lowL p)
  refine ⟨c * s, ?_, fun k => ?_⟩
  · rcases hs with rfl | rfl <;> omega
  · rw [h, ← hc k]
    rcases hs with rfl | rfl
    · simp
    · simp [Int.neg_mul_neg]
theorem prm_neg {p : List Int} (h : Tr p) : prmL (p.map fun x => -x) = prmL p := by
  cases hn : p.length with
  | zero =>
    have e := List.eq_nil_of_length_eq_zero hn
    subst e; rfl
  | succ m =>
    have l := tr_len h hn
    have p0 : p ≠ [] := fun e => by rw [e] at hn; cases hn
    have q0 : (p.map fun x => -x) ≠ [] := fun e => p0 (List.map_eq_nil_iff.mp e)
    unfold prmL
    by_cases g : coef p m < 0
    · rw [if_neg (fun w => by
        have := w.2
        rw [List.length_map, hn, coef_neg] at this
        have e : m + 1 - 1 = m := rfl
        rw [e] at this
        omega), if_pos ⟨p0, by rw [hn]; exact g⟩]
    · rw [if_pos ⟨q0, by
        rw [List.length_map, hn, coef_neg]
        have e : m + 1 - 1 = m := rfl
        rw [e]
        omega⟩, if_neg (fun w => g (by have := w.2; rwa [hn] at this))]
      rw [List.map_map]
      have : ((fun x : Int => -x) ∘ fun x => -x) = id := by funext x; exact Int.neg_neg x
      rw [this, List.map_id]
theorem cont_neg {p : List Int} : contL (p.map fun x => -x) = contL p := by
  have key : ∀ g : Nat, (p.map fun x => -x).foldl (fun g x => Int.gcd g x) g = p.foldl (fun g x => Int.gcd g x) g := by
    induction p with
    | nil => intro g; rfl
    | cons a t ih =>
      intro g
      rw [List.map_cons, List.foldl_cons, List.foldl_cons, Int.gcd_neg]
      exact ih _
  exact key 0
theorem low_neg {p : List Int} : lowL (p.map fun x => -x) = (lowL p).map fun x => -x := by
  unfold lowL
  rw [cont_neg]
  split
  · rfl
  · rw [List.map_map, List.map_map]
    refine List.map_congr_left fun x hx => ?_
    show (-x).fdiv (contL p) = -(x.fdiv (contL p))
    obtain ⟨y, rfl⟩ := cont_dvd x hx
    rw [Int.fdiv_eq_ediv_of_nonneg _ (by omega), Int.fdiv_eq_ediv_of_nonneg _ (by omega), Int.neg_ediv_of_dvd (Int.dvd_mul_right _ _)]
/-- multiples have one primitive form -/
theorem prml_eq {p q : List Int} {a b : Int} (ha : a ≠ 0) (hb : b ≠ 0) (hp : Tr p) (hq : Tr q) (h : ∀ k, a * coef p k = b * coef q k) : prmL (lowL p) = prmL (lowL q) := by
  have pos : ∀ {a b : Int} {q : List Int}, 0 < a → 0 < b → Tr q → (∀ k, a * coef p k = b * coef q k) → lowL p = lowL q := fun {a b q} ha hb hq h => by
    obtain ⟨m, rfl⟩ := Int.eq_ofNat_of_zero_le (Int.le_of_lt ha)
    obtain ⟨n, rfl⟩ := Int.eq_ofNat_of_zero_le (Int.le_of_lt hb)
    rw [← low_low2 hp, ← low_low2 hq]
    exact low_eq (a := m) (b := n) (by omega) (by omega) hp hq h
  by_cases a0 : 0 < a
  · by_cases b0 : 0 < b
    · rw [pos a0 b0 hq h]
    · have := pos (b := -b) a0 (by omega) (neg_tr hq) fun k => by rw [coef_neg, h k, Int.neg_mul_neg]
      rw [this, low_neg, prm_neg (low_tr hq)]
  · by_cases b0 : 0 < b
    · have := pos (a := -a) (b := b) (by omega) b0 (neg_tr hq) fun k => by rw [coef_neg, Int.neg_mul, h k, Int.mul_neg]
      rw [this, low_neg, prm_neg (low_tr hq)]
    · have := pos (a := -a) (b := -b) (by omega) (by omega) hq fun k => by rw [Int.neg_mul, h k, Int.neg_mul]
      rw [this]
/-- the primitive form of a primitive form -/
theorem prml_idem {p : List Int} (h : Tr p) : prmL (lowL (prmL (lowL p))) = prmL (lowL p) := by
  obtain ⟨c, c0, hc⟩ := prml_coef p
  exact prml_eq (a := c) (b := 1) c0 (by decide) (prm_tr (low_tr h)) h fun k => by rw [hc, Int.one_mul]
theorem prm_size {p : List Int} {B : Nat} (h : ∀ k, (coef p k).natAbs ≤ B) (k : Nat) : (coef (prmL (lowL p)) k).natAbs ≤ B := by
  obtain ⟨s, hs, e⟩ := prm_coef (lowL p)
  have := low_size h k
  rw [e]
  rcases hs with rfl | rfl <;> simpa using this
end Dn

set_option Elab.async false
set_option linter.all false
set_option maxRecDepth 100000
set_option maxHeartbeats 4000000
/-! Dn, part 17: more statements that may raise; calls that are known not to raise. -/
namespace Dn
open PySem PySem.Spec PyProof.Rows L2
section
variable {X : Cx} {cls : Value} {W : WX} {e : Expr} {te : DE} {ta : DEX} {pos : Pos}
/-- f(args) as a statement, f may raise -/
def xExpr (e : DEX) : DX where
  run D E env := e.run env (fun _ e1 => D.nx e1) E
  mono D D' E E' env h k q := e.mono _ _ _ _ _ (fun _ _ q => h.nx _ q) k q
theorem dx_expr (he : PE X e (LEX X cls W ta)) (hs : swapsWith e none pos.line X.env = pure false := by rfl) : PS X (.Expr e pos) (LSX X cls W (xExpr ta)) := by
  refine ps_imp (ps_expr he hs) fun D σ H q => ?_
  obtain ⟨C, F, env, fp, S, q⟩ := q
  exact ⟨C, F, env, fp, S, ta.mono _ _ _ _ _ (fun r e1 q F' H' fp' v S' s' _ => q F' H' σ fp' S' s') (fun e1 q F' H' fp' S' s' => q F' H' σ fp' S' s') q⟩
/-- a promise to raise nothing -/
def SpecX.calm (s : SpecX) : Spec := ⟨s.A, s.args, fun x => s.pre x ∧ ¬ s.rz x, s.post⟩
theorem fn_calm {P : Program} {w : World} {K : PySem.W.Frag} {mg : Str → Option Value} {base : Heap} {k : Nat} {f : Addr} {fd : FuncData} {ps : List Str} {s : SpecX} {cls : Value} (F : FnOk P w K mg base (L2.CX P w) k f fd ps (spOfX K mg cls s)) :
    FnOk P w K mg base CX0 k f fd ps (spOf K mg s.calm) := by
  have up : ∀ vs H Q E, spOf K mg s.calm vs H Q E → spOfX K mg cls s vs H Q E0 := fun vs H Q E h => by
    obtain ⟨F', ds, h1, h2, y, h3, hp, h4⟩ := h
    exact ⟨F', ds, h1, h2, y, h3, hp.1, fun z => absurd z hp.2, fun z r hr => h4 r hr⟩
  refine ⟨fun vs H Q E h => F.len vs H Q E0 (up _ _ _ _ h), fun A outer t H args us vs Q E hr he hb hv h => ?_⟩
  refine PySem.codeAny_mono (F.run A outer t H args us vs Q E0 hr he hb hv (up _ _ _ _ h)) fun r s' q => ?_
  cases r with
  | error e =>
    obtain ⟨a, B, H', c, d, _, _, _, _, _, _, _, z⟩ := q
    exact (show False from z).elim
  | ok y => cases y <;> exact q
end
end Dn
namespace Dn
open PySem PySem.Spec PyProof.Rows L2
section
variable {D' : DEnds} {E : En → Prop} {env : En} {a : DEX}
@[simp ↓] theorem r_xExpr : (xExpr a).run D' E env = a.run env (fun _ e1 => D'.nx e1) E := rfl
end
end Dn

set_option Elab.async false
set_option linter.all false
set_option maxRecDepth 100000
set_option maxHeartbeats 4000000
/-! Dn, part 18: in a list of tuples, by == -/
namespace Dn
open PySem PySem.Spec PyProof.Rows L2
section
variable {X : Cx}
def rNinD (K : PySem.W.Frag) : R2 := fun x y H Q => ∃ d es, Dp K H x d ∧ Dp K H y (.list es) ∧ SeqAt.shaped d = true ∧ SeqAt.shaped (.list es) = true ∧ d.depth ≤ 30 ∧ Q (.bl (!es.any fun e => PyData.eqv e d)) H
theorem op_ninD (hu : X.A.units + 64 < cLine) : OpR X (compareOp .NotIn) (rNinD X.K) := by
  intro pins s σ H x y v u Q I rx ry h
  obtain ⟨d, es, hd, he, sd, se, dd, q⟩ := h
  obtain ⟨as, r1⟩ := Dp.reads I d x v hd rx
  obtain ⟨bs, r2⟩ := Dp.reads I (.list es) y u he ry
  unfold SeqAt.shaped at sd se
  rw [Bool.and_eq_true, decide_eq_true_eq] at sd se
  have p1 := PyData.plain_of_canLay0 d sd.1
  have p2 := PyData.plainAll_of_canLay0 es (by simpa [PyData.canLay0] using se.1)
  refine SeqAt.notIn_list_data r2 r1 p2 p1 ?_ ⟨.bl _, H, I, rfl, q⟩
  have : min (PyData.depthAll es) d.depth ≤ 30 := Nat.le_trans (Nat.min_le_right _ _) dd
  omega
def ninDR : RO
  | d, .lst ds => (d.fin 30 ∧ (D.lst ds).fin 30, .sh (.bl (!inD d ds)))
  | _, _ => (False, .sh .non)
theorem any_py {d : D} : ∀ {ds : List D}, ((pys ds).any fun e => PyData.eqv e d.py) = inD d ds
  | [] => rfl
  | e :: ds => by
    show (PyData.eqv e.py d.py || (pys ds).any fun e => PyData.eqv e d.py) = _
    rw [any_py (ds := ds)]
    rfl
theorem os_ninD (hu : X.A.units + 64 < cLine) : OpS X (compareOp .NotIn) ninDR :=
  serves (op_ninD hu) fun C F H σ env fp v u d e Q S hv hu c q => by
    cases e with
    | lst ds =>
      have c : d.fin 30 ∧ (D.lst ds).fin 30 := by cases d <;> exact c
      have q : EPost X C F σ Q (.sh (.bl (!inD d ds))) env := by cases d <;> exact q
      refine ⟨d.py, pys ds, fin_dp c.1 (hv.rep S.fh), fin_dp c.2 (hu.rep S.fh), fin_shaped c.1 (by decide), fin_shaped (d := .lst ds) c.2 (by decide), (fin_py c.1).2, ?_⟩
      rw [any_py]
      exact post_bl S q
    | _ => cases d <;> exact (show False from c).elim
end
@[simp] theorem ninD_l {d : D} {ds : List D} : ninDR d (.lst ds) = (d.fin 30 ∧ (D.lst ds).fin 30, .sh (.bl (!inD d ds))) := by cases d <;> rfl
end Dn

set_option Elab.async false
set_option linter.all false
set_option maxRecDepth 100000
set_option maxHeartbeats 4000000
/-! Dn, part 19: a comprehension over an own list that stays own -/
namespace Dn
open PySem PySem.Spec PyProof.Rows L2
section
variable {X : Cx} {te : DE} {pos : Pos}
theorem SR.hideS {K : PySem.W.Frag} {mg : Str → Option Value} {C : Cn} {F H : Hp} {σ : L2.St} {env : En} {fp : Nat → List Addr} (S : SR K mg C F H σ env fp) {j : Nat} {ds : List D} (h : env[j]? = some (.ow ds)) :
    ∃ p vs, σ[j]? = some (some (.ref p)) ∧ H p = some (.lst vs) ∧ F p = none ∧ C.B p = none ∧ (∀ t ∈ C.T, t.1 ≠ p) ∧ Reps K mg F vs ds ∧ SR K mg (C.and (p, .lst vs)) F H σ (env.set j .no) (fpSet fp j []) := by
  obtain ⟨p, vs, a, b, c, d, r⟩ := S.sl j _ h
  have hp : p ∈ fp j := by rw [a]; simp
  obtain ⟨o1, o2, o3⟩ := S.out j p hp
  have S' := S.forget j (some (.ref p))
  rw [set_getD b] at S'
  refine ⟨p, vs, b, d, o1, c, o3, r, S'.hide d o1 c fun i hi => ?_⟩
  by_cases e : i = j
  · subst e; rw [fpSet_same] at hi; cases hi
  · rw [fpSet_ne e] at hi; exact e (S.sep i j p hi hp)
theorem SR.showS {K : PySem.W.Frag} {mg : Str → Option Value} {C : Cn} {F H : Hp} {σ : L2.St} {env : En} {fp : Nat → List Addr} {p : Addr} {vs : List V} (S : SR K mg (C.and (p, .lst vs)) F H σ env fp) {j : Nat} {ds : List D} (hj : j < env.length) (b : σ[j]? = some (some (.ref p))) (t : ∀ t ∈ C.T, t.1 ≠ p) (r : Reps K mg F vs ds) :
    SR K mg C F H σ (env.set j (.ow ds)) (fpSet fp j [p]) := by
  obtain ⟨S', h1, h2, h3, h4⟩ := S.seek
  exact {
    f0 := S'.f0
    fh := S'.fh
    bh := S'.bh
    fn := S'.fn
    ln := by rw [List.length_set]; exact S'.ln
    sl := fun i s es => by
      by_cases e : i = j
      · subst e
        rw [List.getElem?_set_self hj] at es
        cases es
        rw [fpSet_same]
        exact ⟨p, vs, rfl, b, h3, h1, r⟩
      · rw [List.getElem?_set_ne (Ne.symm e)] at es
        rw [fpSet_ne e]
        exact S'.sl i s es
    sep := fun i k x hi hk => by
      by_cases e1 : i = j
      · by_cases e2 : k = j
        · rw [e1, e2]
        · rw [e1, fpSet_same] at hi
          rw [fpSet_ne e2] at hk
          rw [List.mem_singleton.mp hi] at hk
          exact absurd hk (h4 k)
      · rw [fpSet_ne e1] at hi
        by_cases e2 : k = j
        · rw [e2, fpSet_same] at hk
          rw [List.mem_singleton.mp hk] at hi
          exact absurd hi (h4 i)
        · rw [fpSet_ne e2] at hk
          exact S'.sep i k x hi hk
    out := fun i x hx => by
      by_cases e : i = j
      · rw [e, fpSet_same] at hx
        rw [List.mem_singleton.mp hx]
        exact ⟨h2, none_of_ne h1, t⟩
      · rw [fpSet_ne e] at hx
        exact S'.out i x hx
    iof := S'.iof
    tm := S'.tm }
def eLcO (j : Nat) (g : CT) (c : DT) (e : DE) (vs : List Nat) : DE where
  run env Q := ∃ ds, env[j]? = some (.ow ds) ∧ (∀ v ∈ vs, v < (env.set j .no).length ∧ ((env.set j .no).getD v .no).plain) ∧ ∃ W : Nat → List D → En → Prop, W 0 [] (wipeE (env.set j .no) vs) ∧
    (∀ k x out e1, ds[k]? = some x → W k out e1 → g.run x e1 fun e2 => c.run e2 fun b e3 => if b = true then e.run e3 fun r e4 => dat e4 r fun d e5 => out.length < 1000000 ∧ W (k + 1) (out ++ [d]) (wipeE e5 vs) else W (k + 1) out (wipeE e3 vs)) ∧
    ∀ out e1, W ds.length out e1 → j < (unwipe e1 (env.set j .no) vs).length ∧ Q (.fr out) ((unwipe e1 (env.set j .no) vs).set j (.ow ds))
  mono env Q Q' h q := by
    obtain ⟨ds, h1, q0, W, w0, hs, hd⟩ := q
    exact ⟨ds, h1, q0, W, w0, hs, fun out e1 w => ⟨(hd out e1 w).1, h _ _ (hd out e1 w).2⟩⟩
theorem lcO_down {j : Nat} {g : CT} {tc : DT} {vs : List Nat} (hin : g.inV vs) {σ : L2.St} {H : Hp} {Q : VK} (q : LE X (eLcO j g tc te vs) σ H Q) : tLc (iSeqV X.K (LE X (eVar j))) (g.g X.K) (LT X tc) (LE X te) vs σ H Q := by
  obtain ⟨C0, F, env, fp, S, ds, hj, q0, W, w0, hs, hd⟩ := q
  show LE X (eVar j) σ H _
  refine ⟨C0, F, env, fp, S, ?_⟩
  show (match env[j]? with
    | some (.sh d) => _
    | some (.ow _) => EPost X C0 F σ _ (.bo j) env
    | some (.io _) => _
    | _ => False)
  rw [hj]
  intro F0 H0 fp00 v SS s0 hv
  obtain ⟨p, pv, a1, a2, a3, a4, a5, a6, S0⟩ := SS.hideS hj
  have hv : σ[j]? = some (some v) := hv
  rw [a1] at hv
  cases hv
  refine ⟨p, rfl, .inl ⟨⟨pv, SqL.of a2⟩, ?_⟩⟩
  generalize hfp : fpSet fp00 j [] = fp0 at S0
  generalize he0 : env.set j .no = e0 at S0 q0 w0 hd
  generalize hC : C0.and (p, .lst pv) = C at S0
  have pm : ((p, .lst pv) : Addr × HO) ∈ C.T := by rw [← hC]; exact List.mem_cons_self
  have jk : ∀ C' k F1 H1 σ1 env1 fp1, SR X.K X.mg C' F1 H1 σ1 env1 fp1 → ((p, .lst pv) : Addr × HO) ∈ C'.T → Same F0 F1 →
      (∀ d, ds[k]? = some d → (Itl X.K p).go k H1 ∧ ∀ x H', (Itl X.K p).yld k H1 x H' → ∃ F', SR X.K X.mg C' F' H' σ1 env1 fp1 ∧ Same F1 F' ∧ Rep X.K X.mg F' x d) ∧ (ds.length ≤ k → (Itl X.K p).stop k H1) := by
    intro C' k F1 H1 σ1 env1 fp1 S1 m1 s1
    have hq : SqL X.K H1 p pv := SqL.of (S1.tm _ m1).2.2
    refine ⟨fun d hd => ?_, fun hk => ⟨pv, hq, by rw [a6.len]; exact hk⟩⟩
    obtain ⟨v, h1, h2⟩ := a6.get hd
    refine ⟨⟨pv, v, hq, h1⟩, fun x H' y => ?_⟩
    obtain ⟨rfl, y⟩ := y
    have e1 := y pv hq
    rw [h1] at e1
    cases e1
    exact ⟨F1, S1, Same.refl F1, h2.up s1⟩
  intro q hq
  obtain ⟨f1, f2, f3, f4, f5⟩ := S0.fresh hq
  refine ⟨fun k m H => m = ds.length - k ∧ k ≤ ds.length ∧ ∃ F1 e1 fp1 out ws, SR X.K X.mg C F1 H (wipe σ vs) e1 fp1 ∧ Same F0 F1 ∧ W k out e1 ∧ H q = some (.lst ws) ∧ Reps X.K X.mg F1 ws out ∧ F1 q = none ∧ ∀ i, q ∉ fp1 i, ?_, ?_⟩
  · have S1 : SR X.K X.mg (C.and (q, .lst [])) F0 (upd H0 q (.lst [])) σ e0 fp0 := (S0.more (.lst []) hq).hide upd_same f1 f2 f4
    obtain ⟨fp1, S2⟩ := S1.wiped vs
    obtain ⟨S3, h1, h2, _, h3⟩ := S2.seek
    exact ⟨_, rfl, Nat.zero_le _, F0, _, fp1, [], [], S3, Same.refl F0, w0, h1, .nil, h2, h3⟩
  · rintro k m H ⟨rfl, hk, F1, e1, fp1, out, ws, S1, s1, w, hH, hr, hF, hfp1⟩
    have Sh : SR X.K X.mg (C.and (q, .lst ws)) F1 H (wipe σ vs) e1 fp1 := S1.hide hH hF f2 hfp1
    obtain ⟨j1, j2⟩ := jk _ k F1 H _ e1 fp1 Sh (List.mem_cons_of_mem _ pm) s1
    by_cases hlt : k < ds.length
    · refine .inr ?_
      obtain ⟨g1, g2⟩ := j1 ds[k] (List.getElem?_eq_getElem hlt)
      refine ⟨g1, fun H => k + 1 ≤ ds.length ∧ ∃ F1 e1 fp1 out ws, SR X.K X.mg C F1 H (wipe σ vs) e1 fp1 ∧ Same F0 F1 ∧ W (k + 1) out e1 ∧ H q = some (.lst ws) ∧ Reps X.K X.mg F1 ws out ∧ F1 q = none ∧ ∀ i, q ∉ fp1 i, fun H' n => ⟨ds.length - (k + 1), by omega, rfl, n⟩, fun x H' y => ?_⟩
      obtain ⟨F2, S2, s2, r2⟩ := g2 x H' y
      refine tg_mono (fun σ2 H2 z => ?_) g (ct_ok S2 r2 hin (hs k _ out e1 (List.getElem?_eq_getElem hlt) w))
      obtain ⟨zw, rfl, fp2, e2, S3, p⟩ := z
      rw [wipe_wipe] at zw
      refine ⟨zw, C.and (q, .lst ws), F2, e2, fp2, S3, tc.mono _ _ _ (fun b e3 p F4 H4 fp4 S4 s4 => ?_) p⟩
      cases b with
      | false =>
        obtain ⟨fp5, S5⟩ := S4.wiped vs
        rw [zw] at S5
        obtain ⟨S6, h1, h2, _, h3⟩ := S5.seek
        exact ⟨hlt, F4, _, fp5, out, ws, S6, (s1.trans s2).trans s4, p, h1, hr.up (s2.trans s4), h2, h3⟩
      | true =>
        refine ⟨C.and (q, .lst ws), F4, e3, fp4, S4, te.mono _ _ _ (fun r e4 p F5 H5 fp5 y S5 s5 r5 => ?_) p⟩
        obtain ⟨F6, e5, fp6, d, S6, s6, r6, pl, pw⟩ := dat_ok S5 r5 p
        obtain ⟨fp7, S7⟩ := S6.wiped vs
        rw [zw] at S7
        obtain ⟨S8, h1, h2, _, h3⟩ := S7.seek
        have hl : ws.length < sizeLine := by rw [hr.len]; exact Nat.lt_trans pl (by decide)
        exact ⟨ws, h1, hl, hlt, F6, _, fp7, out ++ [d], ws ++ [y], S8.other h2 f2 h3 f5, ((((s1.trans s2).trans s4).trans s5).trans s6), pw, upd_same, (hr.up (((s2.trans s4).trans s5).trans s6)).app (.cons r6 .nil), h2, h3⟩
    · have e : k = ds.length := by omega
      subst e
      obtain ⟨fp2, S2⟩ := S0.unwiped s1 Sh vs q0
      rw [unwipe_all (fun v hv => by rw [S0.ln]; exact (q0 v hv).1)] at S2
      obtain ⟨S3, h1, h2, _, h3⟩ := S2.seek
      obtain ⟨hl, hQ⟩ := hd out e1 w
      rw [← hC] at S3
      have S4 := S3.showS hl a1 a5 (a6.up s1)
      have f2' : C0.B q = none := by rw [← hC] at f2; exact f2
      have qp : p ≠ q := f5 _ pm
      refine .inl ⟨j2 (Nat.le_refl _), hQ F1 H _ _ S4 (s0.trans s1) ⟨q, ws, rfl, h2, f2', h1, hr, fun i hi => ?_, fun t ht => f5 t (by rw [← hC]; exact List.mem_cons_of_mem _ ht)⟩⟩
      by_cases e : i = j
      · rw [e, fpSet_same] at hi
        exact qp (List.mem_singleton.mp hi).symm
      · rw [fpSet_ne e] at hi
        exact h3 i hi
end
section
variable {X : Cx} {te : DE} {pos : Pos} {tg : Expr} {iter elt : Expr} {ifs : List Expr} {scope : Scope} {own : List (Str × Nat)} {g : CT} {tc : DT} {j : Nat}
theorem de_lcO (hc : X.calm = true) (hN : X.N.Nodup) (hi : PE X iter (LE X (eVar j))) (ok : BlkOk X.N X.env.scope scope own) (hin : g.inV (own.map (·.2)))
    (hg : ∀ (s : Shared) (H : Hp) (C : Addr) (cl : List (Str × Addr)) (fp : List Addr), PG (X.blk s H scope (compEnvC scope cl C X.env) fp) tg (g.g X.K)) (ht : ∀ (s : Shared) (H : Hp) (C : Addr) (cl : List (Str × Addr)) (fp : List Addr), PTs (X.blk s H scope (compEnvC scope cl C X.env) fp) ifs (LT X tc))
    (he : ∀ (s : Shared) (H : Hp) (C : Addr) (cl : List (Str × Addr)) (fp : List Addr), PE (X.blk s H scope (compEnvC scope cl C X.env) fp) elt (LE X te)) (hs : ∀ x, foldedSetIterable iter X.env x = pure x := by intro _; rfl) :
    PE X (.ListComp elt [⟨tg, iter, ifs, 0⟩] scope pos) (LE X (eLcO j g tc te (own.map (·.2)))) :=
  pe_imp (pe_lc hc hN (pi_seq hi) ok hg ht he hs) fun σ H Q q => lcO_down hin q
end
def LcO (j : Nat) (g : CT) (c : DT) (e : DE) (vs : List Nat) (env : En) (Q : Rv → En → Prop) (_ : Fx Q) : Prop := (eLcO j g c e vs).run env Q
@[simp ↓] theorem r_lcO {j : Nat} {g : CT} {c : DT} {e : DE} {vs : List Nat} {env : En} {Q : Rv → En → Prop} : (eLcO j g c e vs).run env Q = LcO j g c e vs env Q ⟨⟩ := rfl
/-- a comprehension that maps an own list -/
theorem lcO_map {j : Nat} {g : CT} {e : DE} {vs : List Nat} {env : En} {Q : Rv → En → Prop} {f : Fx Q} (items out : List D) (hj : env[j]? = some (.ow items)) (hl : out.length = items.length) (hn : out.length ≤ 1000000) (hv : ∀ v ∈ vs, v < (env.set j .no).length ∧ ((env.set j .no).getD v .no).plain)
    (hs : ∀ k (h : k < items.length), g.run items[k] (wipeE (env.set j .no) vs) fun e2 => e.run e2 fun r e4 => dat e4 r fun d e5 => d = out[k]'(by omega) ∧ wipeE e5 vs = wipeE (env.set j .no) vs)
    (hx : j < (unwipe (wipeE (env.set j .no) vs) (env.set j .no) vs).length) (hd : Q (.fr out) ((unwipe (wipeE (env.set j .no) vs) (env.set j .no) vs).set j (.ow items))) : LcO j g tYesD e vs env Q f := by
  refine ⟨items, hj, hv, fun k o e1 => o = out.take k ∧ e1 = wipeE (env.set j .no) vs, ⟨rfl, rfl⟩, ?_, ?_⟩
  · rintro k x o e1 hx ⟨rfl, rfl⟩
    obtain ⟨h, rfl⟩ := List.getElem?_eq_some_iff.mp hx
    have := hs k h
    refine CT.mono' (fun e2 q => ?_) this
    rw [r_tYes, if_pos rfl]
    refine e.mono _ _ _ (fun r e4 q => dat_mono (fun d e5 q => ?_) q) q
    obtain ⟨rfl, q⟩ := q
    refine ⟨?_, ?_, q⟩
    · rw [List.length_take]; omega
    · rw [List.take_succ_eq_append_getElem (by omega)]
  · rintro o e1 ⟨rfl, rfl⟩
    rw [← hl, List.take_length]
    exact ⟨hx, hd⟩
end Dn

set_option Elab.async false
set_option linter.all false
set_option maxRecDepth 100000
set_option maxHeartbeats 4000000
/-! rows of fractions, values, interpolation -/
namespace Dn
open PySem PySem.Spec PyProof.Rows L2
def evQ : List Rat → Rat → Rat
  | [], _ => 0
  | c :: t, x => c + x * evQ t x
theorem evQ_nil {x : Rat} : evQ [] x = 0 := rfl
theorem evQ_cons {c : Rat} {t : List Rat} {x : Rat} : evQ (c :: t) x = c + x * evQ t x := rfl
def ratL (p : List Int) : List Rat := p.map fun (x : Int) => (x : Rat)
theorem evQ_int {p : List Int} {x : Rat} : evQ (ratL p) x = evR p x := by
  induction p with
  | nil => rfl
  | cons c t ih => show (c : Rat) + x * evQ (ratL t) x = _; rw [ih, ev_cons]
def rsL : List Rat → List Rat → Rat → List Rat
  | a :: s, b :: t, f => (a + b * f) :: rsL s t f
  | a :: s, [], _ => a :: s
  | [], b :: t, f => (0 + b * f) :: rsL [] t f
  | [], [], _ => []
theorem evQ_rsL : ∀ (s t : List Rat) (f x : Rat), evQ (rsL s t f) x = evQ s x + f * evQ t x
  | a :: s, b :: t, f, x => by
    rw [rsL, evQ, evQ, evQ, evQ_rsL s t f x]; grind
  | a :: s, [], f, x => by rw [rsL, evQ, evQ]; grind
  | [], b :: t, f, x => by rw [rsL, evQ, evQ, evQ_rsL [] t f x, evQ, evQ]; grind
  | [], [], f, x => by rw [rsL, evQ]; grind
theorem rsL_len : ∀ (s t : List Rat) (f : Rat), (rsL s t f).length = max s.length t.length
  | a :: s, b :: t, f => by rw [rsL, List.length_cons, rsL_len s t f]; simp only [List.length_cons]; omega
  | a :: s, [], f => by rw [rsL]; simp
  | [], b :: t, f => by rw [rsL, List.length_cons, rsL_len [] t f]; simp
  | [], [], f => by rw [rsL]; rfl
theorem qc_nil {k : Nat} : qc [] k = 0 := qc_ge (Nat.zero_le _)
theorem qc_cons {a : Rat} {s : List Rat} {k : Nat} : qc (a :: s) k = match k with | 0 => a | k + 1 => qc s k := by
  cases k with
  | zero => rfl
  | succ k => simp [qc]
theorem qc_rsL : ∀ (s t : List Rat) (f : Rat) (k : Nat), qc (rsL s t f) k = qc s k + qc t k * f
  | a :: s, b :: t, f, k => by
    rw [rsL, qc_cons, qc_cons, qc_cons]
    cases k with
    | zero => rfl
    | succ k => exact qc_rsL s t f k
  | a :: s, [], f, k => by rw [rsL, qc_nil]; grind
  | [], b :: t, f, k => by
    rw [rsL, qc_nil, qc_cons, qc_cons]
    cases k with
    | zero => rfl
    | succ k => have := qc_rsL [] t f k; rw [qc_nil] at this; exact this
  | [], [], f, k => by rw [rsL, qc_nil]; grind
def rpA : Rat → List Rat → Rat → List Rat
  | c, [], _ => [c]
  | c, x :: t, a => (c - x * a) :: rpA x t a
def rpL (xs : List Rat) (a : Rat) : List Rat := rpA 0 xs a
theorem evQ_rpA : ∀ (c : Rat) (xs : List Rat) (a r : Rat), evQ (rpA c xs a) r = c + (r - a) * evQ xs r
  | c, [], a, r => by rw [rpA, evQ_cons, evQ_nil]; grind
  | c, x :: t, a, r => by rw [rpA, evQ, evQ, evQ_rpA x t a r]; grind
theorem evQ_rpL {xs : List Rat} {a r : Rat} : evQ (rpL xs a) r = (r - a) * evQ xs r := by
  unfold rpL
  rw [evQ_rpA, Rat.zero_add]
theorem rpA_len : ∀ (c : Rat) (xs : List Rat) (a : Rat), (rpA c xs a).length = xs.length + 1
  | c, [], a => rfl
  | c, x :: t, a => by rw [rpA, List.length_cons, rpA_len x t a]; rfl
theorem qc_rpA : ∀ (c : Rat) (xs : List Rat) (a : Rat) (k : Nat), qc (rpA c xs a) k = qc (c :: xs) k - qc xs k * a
  | c, [], a, k => by rw [rpA, qc_nil]; grind
  | c, x :: t, a, k => by
    rw [rpA, qc_cons, qc_cons]
    cases k with
    | zero => rfl
    | succ k =>
      have := qc_rpA x t a k
      show qc (rpA x t a) k = qc (x :: t) k - qc (x :: t) (k + 1) * a
      rw [this]
      rfl
/-- a row that is 0 at as many places as it is long is 0 -/
def hzT : List Rat → Rat → List Rat
  | [], _ => []
  | y :: t, a => evQ (y :: t) a :: hzT t a
theorem hzT_len : ∀ (t : List Rat) (a : Rat), (hzT t a).length = t.length
  | [], _ => rfl
  | y :: t, a => by rw [hzT, List.length_cons, hzT_len t a]; rfl
theorem evQ_hzT : ∀ (t : List Rat) (a r : Rat), r * evQ t r = a * evQ t a + (r - a) * evQ (hzT t a) r
  | [], a, r => by rw [hzT]; simp only [evQ_nil]; grind
  | y :: t, a, r => by
    have := evQ_hzT t a r
    rw [hzT, evQ, evQ, evQ]
    grind
theorem hzT_zero : ∀ (t : List Rat) (a : Rat), (∀ c ∈ hzT t a, c = 0) → ∀ c ∈ t, c = 0
  | [], _, _, c, hc => by cases hc
  | y :: t, a, h, c, hc => by
    rw [hzT] at h
    have h1 := h _ List.mem_cons_self
    have h2 := hzT_zero t a fun c hc => h c (List.mem_cons_of_mem _ hc)
    have e0 : evQ t a = 0 := by
      clear h1 h hc
      induction t with
      | nil => rfl
      | cons z t ih =>
        rw [evQ, h2 z List.mem_cons_self, ih fun c hc => h2 c (List.mem_cons_of_mem _ hc)]
        grind
    rw [evQ, e0] at h1
    rcases List.mem_cons.mp hc with rfl | hc
    · grind
    · exact h2 c hc
theorem row_zero : ∀ (n : Nat) (xs : List Rat) (p : Nat → Rat), xs.length = n → (∀ i j, i < n → j < n → i ≠ j → p i ≠ p j) → (∀ i, i < n → evQ xs (p i) = 0) → ∀ c ∈ xs, c = 0
  | 0, xs, p, hl, _, _, c, hc => by
    rw [List.eq_nil_of_length_eq_zero hl] at hc
    cases hc
  | n + 1, [], p, hl, _, _, c, hc => by cases hc
  | n + 1, x :: t, p, hl, hp, hz, c, hc => by
    have z0 := hz n (by omega)
    rw [evQ] at z0
    have lt : t.length = n := by simpa using hl
    have qz := row_zero n (hzT t (p n)) p (by rw [hzT_len, lt]) (fun i j hi hj => hp i j (by omega) (by omega)) fun i hi => by
      have z1 := hz i (by omega)
      rw [evQ] at z1
      have e := evQ_hzT t (p n) (p i)
      have d : p i - p n ≠ 0 := by
        have := hp i n (by omega) (by omega) (by omega)
        grind
      have m : (p i - p n) * evQ (hzT t (p n)) (p i) = 0 := by grind
      rcases Rat.mul_eq_zero.mp m with h | h
      · exact absurd h d
      · exact h
    have tz := hzT_zero t (p n) qz
    rcases List.mem_cons.mp hc with rfl | hc
    · have e0 : evQ t (p n) = 0 := by
        clear z0 qz hz hl lt hc
        induction t with
        | nil => rfl
        | cons z t ih =>
          rw [evQ, tz z List.mem_cons_self, ih fun c hc => tz c (List.mem_cons_of_mem _ hc)]
          grind
      rw [e0] at z0
      grind
    · exact tz c hc
theorem evQ_ext : ∀ (s t : List Rat) (x : Rat), (∀ k, qc s k = qc t k) → evQ s x = evQ t x
  | [], [], _, _ => rfl
  | a :: s, [], x, h => by
    have h0 := h 0
    have := evQ_ext s [] x fun k => by have := h (k + 1); rw [qc_cons, qc_nil] at this; rw [qc_nil]; exact this
    rw [qc_cons, qc_nil] at h0
    have h0 : a = 0 := h0
    rw [evQ_cons, this, evQ_nil, h0]
    grind
  | [], b :: t, x, h => by
    have h0 := h 0
    have := evQ_ext [] t x fun k => by have := h (k + 1); rw [qc_nil, qc_cons] at this; rw [qc_nil]; exact this
    rw [qc_nil, qc_cons] at h0
    have h0 : 0 = b := h0
    rw [evQ_cons, ← this, evQ_nil, ← h0]
    grind
  | a :: s, b :: t, x, h => by
    have h0 := h 0
    rw [qc_cons, qc_cons] at h0
    have h0 : a = b := h0
    have := evQ_ext s t x fun k => by have := h (k + 1); rw [qc_cons, qc_cons] at this; exact this
    rw [evQ, evQ, this, h0]
/-- two rows of at most n numbers, alike at n places, are alike -/
theorem row_eq {n : Nat} {s t : List Rat} {p : Nat → Rat} (hs : s.length ≤ n) (ht : t.length ≤ n) (hp : ∀ i j, i < n → j < n → i ≠ j → p i ≠ p j) (h : ∀ i, i < n → evQ s (p i) = evQ t (p i)) (k : Nat) : qc s k = qc t k := by
  have z := row_zero (rsL s t (-1)).length (rsL s t (-1)) p rfl (fun i j hi hj => hp i j (by rw [rsL_len] at hi; omega) (by rw [rsL_len] at hj; omega)) fun i hi => by
    rw [evQ_rsL, h i (by rw [rsL_len] at hi; omega)]
    grind
  have q := qc_rsL s t (-1) k
  have z0 : qc (rsL s t (-1)) k = 0 := by
    by_cases g : k < (rsL s t (-1)).length
    · rw [qc_lt g]; exact z _ (List.getElem_mem g)
    · exact qc_ge (by omega)
  grind
/-! differences, numbers of choices -/
def dl (s : Nat → Int) : Nat → Int := fun n => s (n + 1) - s n
def dk : Nat → (Nat → Int) → Nat → Int
  | 0, s => s
  | k + 1, s => dk k (dl s)
def chs : Nat → Nat → Nat
  | _, 0 => 1
  | 0, _ + 1 => 0
  | n + 1, k + 1 => chs n k + chs n (k + 1)
theorem chs_0 {n : Nat} : chs n 0 = 1 := by cases n <;> rfl
theorem chs_gt : ∀ (n k : Nat), n < k → chs n k = 0
  | _, 0, h => absurd h (Nat.not_lt_zero _)
  | 0, k + 1, _ => rfl
  | n + 1, k + 1, h => by rw [chs, chs_gt n k (by omega), chs_gt n (k + 1) (by omega)]
theorem chs_step : ∀ (n k : Nat), ((chs n k : Nat) : Int) * ((n : Int) - (k : Int)) = ((k : Int) + 1) * ((chs n (k + 1) : Nat) : Int)
  | 0, 0 => by simp [chs]
  | 0, k + 1 => by simp [chs]
  | n + 1, 0 => by
    have := chs_step n 0
    rw [chs_0] at this ⊢
    rw [chs, chs_0]
    push_cast
    simp at this ⊢
    omega
  | n + 1, k + 1 => by
    have h1 := chs_step n k
    have h2 := chs_step n (k + 1)
    rw [chs, show chs (n + 1) (k + 1 + 1) = chs n (k + 1) + chs n (k + 1 + 1) from rfl]
    push_cast at h1 h2 ⊢
    grind
theorem newton : ∀ (n : Nat) (s : Nat → Int), s n = Sg (n + 1) fun k => ((chs n k : Nat) : Int) * dk k s 0
  | 0, s => by simp [Sg, chs, dk]
  | n + 1, s => by
    have h1 := newton n s
    have h2 := newton n (dl s)
    have e : s (n + 1) = s n + dl s n := by unfold dl; omega
    rw [e, h1, h2, Sg_shift (n := n + 1), Sg_shift (n := n)]
    have t : (Sg (n + 1) fun k => ((chs (n + 1) (k + 1) : Nat) : Int) * dk (k + 1) s 0) = (Sg (n + 1) fun k => ((chs n k : Nat) : Int) * dk k (dl s) 0) + Sg n fun k => ((chs n (k + 1) : Nat) : Int) * dk (k + 1) s 0 := by
      have m : (Sg (n + 1) fun k => ((chs n (k + 1) : Nat) : Int) * dk (k + 1) s 0) = Sg n fun k => ((chs n (k + 1) : Nat) : Int) * dk (k + 1) s 0 := by
        rw [Sg_s, chs_gt n (n + 1) (by omega)]
        simp
      rw [← m, ← Sg_add]
      refine Sg_congr fun k _ => ?_
      rw [chs]
      push_cast
      show _ * dk (k + 1) s 0 = _ * dk (k + 1) s 0 + _
      grind
    rw [t, chs_0, chs_0]
    omega
theorem newton' {n N : Nat} (s : Nat → Int) (h : n < N) : s n = Sg N fun k => ((chs n k : Nat) : Int) * dk k s 0 := by
  rw [newton n s]
  refine (Sg_more (by omega) fun k hk _ => ?_).symm
  rw [chs_gt n k (by omega)]
  simp
/-- the sum of the first n -/
theorem stick : ∀ (n k : Nat), ((chs n (k + 1) : Nat) : Int) = Sg n fun m => ((chs m k : Nat) : Int)
  | 0, k => rfl
  | n + 1, k => by
    rw [Sg_s, ← stick n k, chs]
    push_cast
    omega
end Dn

set_option Elab.async false
set_option linter.all false
set_option maxRecDepth 100000
set_option maxHeartbeats 4000000
set_option exponentiation.threshold 100000
/-! k01: the law's own fractions -/
namespace Dn
open PySem PySem.Spec PyProof.Rows L2
def RN (n d : Nat) (r : Rat) : Prop := Sz n r.num ∧ Sz d (r.den : Int)
theorem RN.up {n d m e : Nat} {r : Rat} (h : RN n d r) (l : n ≤ m) (l' : d ≤ e) : RN m e r := ⟨h.1.up l, h.2.up l'⟩
def sp__law_plus5 : Spec := .det (Rat × Rat) (fun x => [frD x.1, frD x.2]) (fun x => RN 400000 4000 x.1 ∧ RN 400000 4000 x.2) fun x => .sh (frD (x.1 + x.2))
def sp__law_times5 : Spec := .det (Rat × Rat) (fun x => [frD x.1, frD x.2]) (fun x => RN 400000 4000 x.1 ∧ RN 400000 4000 x.2) fun x => .sh (frD (x.1 * x.2))
def VOk (s t : Nat) (p : List Int) (r : Rat) : Prop := (∀ x ∈ p, Sz t x) ∧ RSz s r ∧ (s + 1) * (p.length + 1) ≤ 1000 ∧ t ≤ 100000
def sp__law_value5 : Spec := ⟨List Int × Rat × Nat × Nat, fun x => [lsD x.1, frD x.2.1], fun x => VOk x.2.2.1 x.2.2.2 x.1 x.2.1, fun x r => r = .sh (frD (evR x.1 x.2.1)) ∧ RN 200000 1001 (evR x.1 x.2.1)⟩
abbrev ovD (p : List Int) (b : Int) : D := .tup [lsD p, .int b]
def sp__law_over_value : Spec := ⟨List Int × Int × Rat × Nat × Nat, fun x => [ovD x.1 x.2.1, frD x.2.2.1], fun x => VOk x.2.2.2.1 x.2.2.2.2 x.1 x.2.2.1 ∧ x.2.1 ≠ 0 ∧ Sz 7900 x.2.1, fun x r => r = .sh (frD (evR x.1 x.2.2.1 / (x.2.1 : Rat)))⟩
def sp__law_is_over : Spec := ⟨List Int × Int, fun x => [ovD x.1 x.2], fun x => (∀ y ∈ x.1, Sz 9000 y) ∧ Sz 9000 x.2 ∧ Tr x.1 ∧ 0 < x.2 ∧ Int.gcd (contL x.1) x.2 = 1, fun _ r => r = .sh (.bl true)⟩
def sp__law_choices : Spec := .det (Nat × Nat) (fun x => [.int x.1, .int x.2]) (fun x => x.1 ≤ 1000 ∧ x.2 ≤ 1000) fun x => .sh (.int (chs x.1 x.2))
section
variable {Q : Rv → Prop} {f : Fx Q}
@[simp ↓] theorem c__law_plus5 {a b : Rat} : sp__law_plus5.Run [frD a, frD b] Q f = ((RN 400000 4000 a ∧ RN 400000 4000 b) ∧ Q (.sh (frD (a + b)))) := Spec.det_run (fun _ _ => inj_ff) (a, b)
@[simp ↓] theorem c__law_times5 {a b : Rat} : sp__law_times5.Run [frD a, frD b] Q f = ((RN 400000 4000 a ∧ RN 400000 4000 b) ∧ Q (.sh (frD (a * b)))) := Spec.det_run (fun _ _ => inj_ff) (a, b)
theorem c__law_value5 {p : List Int} {r : Rat} {s t : Nat} (h : VOk s t p r) (q : RN 200000 1001 (evR p r) → Q (.sh (frD (evR p r)))) : sp__law_value5.Run [lsD p, frD r] Q f := Spec.go sp__law_value5 (p, r, s, t) rfl h fun _ hr => by obtain ⟨rfl, h⟩ := hr; exact q h
theorem c__law_over_value {p : List Int} {b : Int} {r : Rat} {s t : Nat} (h : VOk s t p r ∧ b ≠ 0 ∧ Sz 7900 b) (q : Q (.sh (frD (evR p r / (b : Rat))))) : sp__law_over_value.Run [ovD p b, frD r] Q f := Spec.go sp__law_over_value (p, b, r, s, t) rfl h fun _ hr => by cases hr; exact q
theorem c__law_is_over {p : List Int} {b : Int} (h : (∀ y ∈ p, Sz 9000 y) ∧ Sz 9000 b ∧ Tr p ∧ 0 < b ∧ Int.gcd (contL p) b = 1) (q : Q (.sh (.bl true))) : sp__law_is_over.Run [ovD p b] Q f := Spec.go sp__law_is_over (p, b) rfl h fun _ hr => by cases hr; exact q
@[simp ↓] theorem c__law_choices {n k : Nat} : sp__law_choices.Run [.int n, .int k] Q f = ((n ≤ 1000 ∧ k ≤ 1000) ∧ Q (.sh (.int (chs n k)))) := Spec.det_run (A := Nat × Nat) (args := fun x => [.int x.1, .int x.2]) (fun x y h => by
  obtain ⟨a, b⟩ := x
  obtain ⟨c, d⟩ := y
  simp at h
  rw [show a = c by omega, show b = d by omega]) (n, k)
end
def d__law_plus5 : DS :=
  (sRet (eCall sp__law_ratio (aCons (eOp addR (eOp mulR (eOp ixR (eVar 0) (eC (.int 0))) (eOp ixR (eVar 1) (eC (.int 1)))) (eOp mulR (eOp ixR (eVar 1) (eC (.int 0))) (eOp ixR (eVar 0) (eC (.int 1))))) (aCons (eOp mulR (eOp ixR (eVar 0) (eC (.int 1))) (eOp ixR (eVar 1) (eC (.int 1)))) aNil))))

def d__law_times5 : DS :=
  (sRet (eCall sp__law_ratio (aCons (eOp mulR (eOp ixR (eVar 0) (eC (.int 0))) (eOp ixR (eVar 1) (eC (.int 0)))) (aCons (eOp mulR (eOp ixR (eVar 0) (eC (.int 1))) (eOp ixR (eVar 1) (eC (.int 1)))) aNil))))

def d__law_value5 : DS :=
  (sSeq (sSet 2 (eTup (aCons (eC (.int 0)) (aCons (eC (.int 1)) aNil))))
  (sSeq (sFor (iListArg List.reverse (aCons (eVar 0) aNil)) (gN 3) (sSet 2 (eCall sp__law_plus5 (aCons (eCall sp__law_times5 (aCons (eVar 2) (aCons (eVar 1) aNil))) (aCons (eTup (aCons (eVar 3) (aCons (eC (.int 1)) aNil))) aNil)))))
  (sRet (eVar 2))))

def d__law_over_value : DS :=
  (sSeq (sSet 2 (eCall sp__law_value5 (aCons (eOp ixR (eVar 0) (eC (.int 0))) (aCons (eVar 1) aNil))))
  (sRet (eCall sp__law_ratio (aCons (eOp ixR (eVar 2) (eC (.int 0))) (aCons (eOp mulR (eOp ixR (eVar 2) (eC (.int 1))) (eOp ixR (eVar 0) (eC (.int 1)))) aNil)))))

def d__law_is_over : DS :=
  (sSeq (sIf (tOr (tNot (tTru (eOp1 (isiR .tuple) (eVar 0)))) (tOr (tB (eOp neR (eOp1 lenR (eVar 0)) (eC (.int 2)))) (tOr (tNot (tTru (eCall sp__law_is_poly (aCons (eOp ixR (eVar 0) (eC (.int 0))) aNil)))) (tOr (tTru (eOp1 (isiR .bool) (eOp ixR (eVar 0) (eC (.int 1))))) (tNot (tTru (eOp1 (isiR .int) (eOp ixR (eVar 0) (eC (.int 1)))))))))) (sRet (eC (.bl false))) sNext)
  (sRet (eAnd (eOp gtR (eOp ixR (eVar 0) (eC (.int 1))) (eC (.int 0))) (eOp eqR (eCall sp__law_divisor (aCons (eCall sp__law_content (aCons (eOp ixR (eVar 0) (eC (.int 0))) aNil)) (aCons (eOp ixR (eVar 0) (eC (.int 1))) aNil))) (eC (.int 1))))))

def d__law_choices : DS :=
  (sSeq (sSet 2 (eC (.int 1)))
  (sSeq (sFor (iRange1 (aCons (eVar 1) aNil)) (gN 3) (sSet 2 (eOp1 intR (eOp fdivR (eOp mulR (eVar 2) (eOp subR (eVar 0) (eVar 3))) (eOp addR (eVar 3) (eC (.int 1)))))))
  (sRet (eVar 2))))

theorem k__law_plus5 : sp__law_plus5.Ok 2 d__law_plus5 := by
  rintro ⟨x, y⟩ ⟨hx, hy⟩
  have hx : RN 400000 4000 x := hx
  have hy : RN 400000 4000 y := hy
  simp [entry, sp__law_plus5, Spec.det]
  simp -dsimp [d__law_plus5]
  exact ⟨hx.1.mulOk hy.2 (by decide), hy.1.mulOk hx.2 (by decide), hx.2.mulOk hy.2 (by decide), ⟨⟨x.den_nz, y.den_nz⟩, Sz.up (hx.2.mul hy.2) (by decide)⟩, add_divInt x y⟩
theorem k__law_times5 : sp__law_times5.Ok 2 d__law_times5 := by
  rintro ⟨x, y⟩ ⟨hx, hy⟩
  have hx : RN 400000 4000 x := hx
  have hy : RN 400000 4000 y := hy
  simp [entry, sp__law_times5, Spec.det]
  simp -dsimp [d__law_times5]
  exact ⟨hx.1.mulOk hy.1 (by decide), hx.2.mulOk hy.2 (by decide), ⟨⟨x.den_nz, y.den_nz⟩, Sz.up (hx.2.mul hy.2) (by decide)⟩, mul_divInt x y⟩
theorem divInt_sz {p q : Int} {n m : Nat} (h : Sz n p) (h' : Sz m q) (h0 : q ≠ 0) : RN n m (Rat.divInt p q) := by
  have hg : Int.gcd q p ≠ 0 := fun e => h0 (Int.gcd_eq_zero_iff.mp e).1
  have := ratSz (n := max n m) (h.up (Nat.le_max_left _ _)) (h'.up (Nat.le_max_right _ _)) h0
  have e1 : (Rat.divInt p q).num.natAbs ≤ p.natAbs ∧ ((Rat.divInt p q).den : Int).natAbs ≤ q.natAbs := by
    by_cases g : 0 < q
    · have := divInt_le (p := p) g
      omega
    · have e : Rat.divInt p q = Rat.divInt (-p) (-q) := by rw [Rat.neg_divInt_neg]
      rw [e]
      have := divInt_le (p := -p) (q := -q) (by omega)
      omega
  exact ⟨h.le e1.1, h'.le e1.2⟩
theorem RN.mul {n d m e : Nat} {r s : Rat} (h : RN n d r) (h' : RN m e s) : RN (n + m) (d + e) (r * s) := by
  rw [← mul_divInt]
  exact divInt_sz (h.1.mul h'.1) (h.2.mul h'.2) (Int.mul_ne_zero (den_ne r) (den_ne s))
theorem RN.addI {n d m : Nat} {r : Rat} {c : Int} (h : RN n d r) (h' : Sz m c) : RN (max n (m + d) + 1) d ((c : Rat) + r) := by
  have e : (c : Rat) + r = Rat.divInt (c * r.den + r.num) r.den := by
    have := add_divInt (c : Rat) r
    rw [← this]
    congr 1
    · simp [Rat.num_intCast, Rat.den_intCast]
    · simp [Rat.den_intCast]
  rw [e]
  exact divInt_sz (Sz.add ((h'.mul h.2).up (Nat.le_max_right _ _)) (h.1.up (Nat.le_max_left _ _))) h.2 (den_ne r)
theorem ev_rn {s t : Nat} {r : Rat} (hr : RSz s r) : ∀ (p : List Int), (∀ x ∈ p, Sz t x) → RN (t + (s + 1) * p.length + 1) (s * p.length + 1) (evR p r)
  | [], _ => ⟨Nat.two_pow_pos _, by show (1 : Nat) < 2 ^ (s * 0 + 1); rw [Nat.mul_zero]; decide⟩
  | c :: p, h => by
    have ih := ev_rn hr p fun x hx => h x (List.mem_cons_of_mem _ hx)
    have m := RN.mul (r := r) (n := s) (d := s) ⟨hr.1, hr.2⟩ ih
    have a := m.addI (h c List.mem_cons_self)
    rw [ev_cons]
    rw [List.length_cons]
    have e1 : (s + 1) * (p.length + 1) = (s + 1) * p.length + (s + 1) := Nat.mul_succ _ _
    have e2 : s * (p.length + 1) = s * p.length + s := Nat.mul_succ _ _
    have e3 : (s + 1) * p.length = s * p.length + p.length := by rw [Nat.add_mul, Nat.one_mul]
    exact a.up (by omega) (by omega)
theorem k__law_value5 : sp__law_value5.Ok 4 d__law_value5 := by
  rintro ⟨p, r, s, t⟩ ⟨h1, h2, h3, h4⟩
  have h1 : ∀ x ∈ p, Sz t x := h1
  have h2 : RSz s r := h2
  have h3 : (s + 1) * (p.length + 1) ≤ 1000 := h3
  have h4 : t ≤ 100000 := h4
  simp [entry, sp__law_value5]
  have le3 : (s + 1) * (p.length + 1) = (s + 1) * p.length + (s + 1) := Nat.mul_succ _ _
  have le2 : (s + 1) * p.length = s * p.length + p.length := by rw [Nat.add_mul, Nat.one_mul]
  have r4 : RN 400000 4000 r := ⟨h2.num.up (by omega), h2.den.up (by omega)⟩
  have all : ∀ m, RN 200000 1001 (evR (p.drop m) r) := fun m => by
    have := ev_rn (t := t) h2 (p.drop m) fun x hx => h1 x (List.mem_of_mem_drop hx)
    have l : (p.drop m).length ≤ p.length := by simp
    have a1 : (s + 1) * (p.drop m).length ≤ (s + 1) * p.length := Nat.mul_le_mul_left _ l
    have a2 : s * (p.drop m).length ≤ s * p.length := Nat.mul_le_mul_left _ l
    exact this.up (by omega) (by omega)
  have z : D.tup [.int 0, .int 1] = frD (0 : Rat) := rfl
  simp -dsimp [d__law_value5, z]
  refine forL (ns := p.reverse) (fun Q => by simp) (fun m e => ∃ s4, e = [.sh (lsD p), .sh (frD r), .sh (frD (evR (p.drop (p.length - m)) r)), s4]) ⟨.no, by rw [Nat.sub_zero, List.drop_length]; rfl⟩ ?_ ?_
  · rintro m hm e ⟨s4, rfl⟩
    have hm : m < p.length := by simpa using hm
    have v4 : RN 400000 4000 (evR (p.drop (p.length - m)) r) := (all _).up (by decide) (by decide)
    have w4 : RN 400000 4000 (evR (p.drop (p.length - m)) r * r) := (RN.mul (all _) (n := 200000) (d := 1001) (m := 1000) (e := 1000) ⟨h2.num.up (by omega), h2.den.up (by omega)⟩).up (by decide) (by decide)
    have c4 : RN 400000 4000 ((coef p.reverse m : Int) : Rat) := ⟨(h1 _ (by have := mem_coef (p := p.reverse) (k := m) (by simpa using hm); simpa using this) : Sz t (coef p.reverse m)).up (by omega), by show (1 : Nat) < 2 ^ 4000; exact Nat.one_lt_two_pow (by decide)⟩
    simp -dsimp [frD_int, v4, w4, c4, r4]
    have e : evR (p.drop (p.length - m)) r * r + ((coef p.reverse m : Int) : Rat) = evR (p.drop (p.length - (m + 1))) r := by
      rw [drop_rev hm, ev_cons]
      grind
    rw [e]
    exact hold ⟨_, rfl⟩
  · rintro e ⟨s4, rfl⟩
    simp -dsimp
    exact all 0
theorem k__law_over_value : sp__law_over_value.Ok 3 d__law_over_value := by
  rintro ⟨p, b, r, s, t⟩ ⟨h, b0, hb⟩
  have h : VOk s t p r := h
  have b0 : b ≠ 0 := b0
  have hb : Sz 7900 b := hb
  simp [entry, sp__law_over_value]
  simp -dsimp [d__law_over_value]
  refine c__law_value5 h fun v => ?_
  have m1 : IntMulOk ((evR p r).den : Int) b := v.2.mulOk hb (by decide)
  have z1 : Sz 9000 (((evR p r).den : Int) * b) := (v.2.mul hb).up (by decide)
  simp -dsimp [m1, z1, b0]
  refine ⟨(evR p r).den_nz, ?_⟩
  have e := div_divInt (evR p r) (b : Rat)
  rw [e]
  congr 1
  · simp [Rat.den_intCast]
theorem k__law_is_over : sp__law_is_over.Ok 1 d__law_is_over := by
  rintro ⟨p, b⟩ ⟨h1, h2, h3, h4, h5⟩
  have h1 : ∀ y ∈ p, Sz 9000 y := h1
  have h2 : Sz 9000 b := h2
  have h3 : Tr p := h3
  have h4 : 0 < b := h4
  have h5 : Int.gcd (contL p) b = 1 := h5
  simp [entry, sp__law_is_over]
  simp -dsimp [d__law_is_over, h2, h3, h4, h5]
  exact h1
theorem k__law_choices : sp__law_choices.Ok 4 d__law_choices := by
  rintro ⟨n, k⟩ ⟨hn, hk⟩
  have hn : n ≤ 1000 := hn
  have hk : k ≤ 1000 := hk
  have sk : Sm (k : Int) := sm_n (by omega)
  simp [entry, sp__law_choices, Spec.det]
  simp -dsimp [d__law_choices]
  refine forR (n := k) (by omega) (fun Q => by simp [sk]) (fun m e => ∃ s3, e = [.sh (.int n), .sh (.int k), .sh (.int (chs n m)), s3]) ⟨_, by rw [chs_0]; rfl⟩ ?_ ?_
  · rintro m hm e ⟨s3, rfl⟩
    have m1 : IntMulOk ((chs n m : Nat) : Int) ((n : Int) - (m : Int)) := mulOkR (by omega)
    have d1 : ∀ y, DivOk y ((m : Int) + 1) := fun y => Sz.divOk (n := 9000) (Nat.lt_of_lt_of_le (show ((m : Int) + 1).natAbs < 2 ^ 10 by omega) (Nat.pow_le_pow_right (by decide) (by decide))) (by decide) (by omega)
    have e1 : Int.fdiv (((chs n m : Nat) : Int) * ((n : Int) - (m : Int))) ((m : Int) + 1) = ((chs n (m + 1) : Nat) : Int) := by
      rw [chs_step, Int.mul_fdiv_cancel_left _ (by omega)]
    simp -dsimp [m1, d1, e1]
    exact hold ⟨_, rfl⟩
  · rintro e ⟨s3, rfl⟩
    simp -dsimp
end Dn

set_option Elab.async false
set_option linter.all false
set_option maxRecDepth 100000
set_option maxHeartbeats 4000000
set_option exponentiation.threshold 100000
/-! k01: rows of fractions walked -/
namespace Dn
open PySem PySem.Spec PyProof.Rows L2
def BtOk (D : Nat) (xs : List Rat) : Prop := 0 < D ∧ Sz 9000 (D : Int) ∧ ∀ q ∈ xs, q.den ∣ D
def sp_common_bottom : Spec := ⟨List Rat × Nat, fun x => [.lst (fL x.1)], fun x => BtOk x.2 x.1, fun x r => ∃ b : Nat, r = .sh (.int b) ∧ 0 < b ∧ b ∣ x.2 ∧ ∀ q ∈ x.1, q.den ∣ b⟩
/-- the row over an integer, in its one form -/
structure Quo (D : Nat) (xs : List Rat) (p : List Int) (b : Nat) : Prop where
  tr : Tr p
  pos : 0 < b
  dvd : b ∣ D
  one : Int.gcd (contL p) (b : Int) = 1
  co : ∀ k, (coef p k : Rat) = qc xs k * (b : Rat)
def sp_as_quotient : Spec := ⟨List Rat × Nat × Nat, fun x => [.lst (fL x.1)], fun x => BtOk x.2.1 x.1 ∧ (∀ q ∈ x.1, Sz x.2.2 q.num) ∧ x.2.2 ≤ 100000 ∧ x.1.length ≤ 1000, fun x r => ∃ p b, r = .sh (ovD p (b : Nat)) ∧ Quo x.2.1 x.1 p b⟩
def sp_row_product : Spec := ⟨List Rat × Rat × Nat × Nat, fun x => [.lst (fL x.1), frD x.2.1], fun x => (∀ q ∈ x.1, RSz x.2.2.1 q) ∧ RSz x.2.2.2 x.2.1 ∧ x.2.2.1 + x.2.2.2 ≤ 4000 ∧ 0 < x.2.2.2 ∧ x.1.length ≤ 1000, fun x r => r = .fr (fL (rpL x.1 x.2.1))⟩
def sp_row_sum : Spec := ⟨List Rat × List Rat × Rat × Nat × Nat, fun x => [.lst (fL x.1), .lst (fL x.2.1), frD x.2.2.1], fun x => (∀ q ∈ x.1, RSz 4000 q) ∧ (∀ q ∈ x.2.1, RSz x.2.2.2.1 q) ∧ RSz x.2.2.2.2 x.2.2.1 ∧ x.2.2.2.1 + x.2.2.2.2 ≤ 4000 ∧ x.1.length ≤ 1000 ∧ x.2.1.length ≤ 1000, fun x r => r = .fr (fL (rsL x.1 x.2.1 x.2.2.1))⟩
section
variable {Q : Rv → Prop} {f : Fx Q}
theorem c_common_bottom {xs : List Rat} {D : Nat} (h : BtOk D xs) (q : ∀ b : Nat, 0 < b → b ∣ D → (∀ q ∈ xs, q.den ∣ b) → Q (.sh (.int b))) : sp_common_bottom.Run [.lst (fL xs)] Q f := Spec.go sp_common_bottom (xs, D) rfl h fun _ hr => by obtain ⟨b, rfl, h1, h2, h3⟩ := hr; exact q b h1 h2 h3
theorem c_as_quotient {xs : List Rat} {D t : Nat} (h : BtOk D xs ∧ (∀ q ∈ xs, Sz t q.num) ∧ t ≤ 100000 ∧ xs.length ≤ 1000) (q : ∀ p (b : Nat), Quo D xs p b → Q (.sh (ovD p b))) : sp_as_quotient.Run [.lst (fL xs)] Q f := Spec.go sp_as_quotient (xs, D, t) rfl h fun _ hr => by obtain ⟨p, b, rfl, h1⟩ := hr; exact q p b h1
theorem c_row_product {xs : List Rat} {a : Rat} {n m : Nat} (h : (∀ q ∈ xs, RSz n q) ∧ RSz m a ∧ n + m ≤ 4000 ∧ 0 < m ∧ xs.length ≤ 1000) (q : Q (.fr (fL (rpL xs a)))) : sp_row_product.Run [.lst (fL xs), frD a] Q f := Spec.go sp_row_product (xs, a, n, m) rfl h fun _ hr => by cases hr; exact q
theorem c_row_sum {xs ys : List Rat} {a : Rat} {n m : Nat} (h : (∀ q ∈ xs, RSz 4000 q) ∧ (∀ q ∈ ys, RSz n q) ∧ RSz m a ∧ n + m ≤ 4000 ∧ xs.length ≤ 1000 ∧ ys.length ≤ 1000) (q : Q (.fr (fL (rsL xs ys a)))) : sp_row_sum.Run [.lst (fL xs), .lst (fL ys), frD a] Q f := Spec.go sp_row_sum (xs, ys, a, n, m) rfl h fun _ hr => by cases hr; exact q
end
theorem forED {ds : List D} {e : En} {i : DI} {a b : Nat} {s : DS} {D' : DEnds} {f : Fx D'} (hr : ∀ Q : List D → En → Prop, i.run e Q = Q (enumD ds) e) (W : Nat → En → Prop) (h0 : W 0 e)
    (hs : ∀ k (h : k < ds.length), ∀ e1, W k e1 → s.run (D'.lp fun e => HoldF (W (k + 1)) e ⟨⟩) ((e1.set a (.sh (.int (k : Int)))).set b (.sh ds[k]))) (hd : ∀ e1, W ds.length e1 → D'.nx e1) : ForF i (gTupD 2 (gConsD (gN a) (gConsD (gN b) gNilD))) s D' e f :=
  forI (enumD ds) e (fun Q q => by rw [hr]; exact q) W h0 (fun k x e1 hx w => by
    rw [enumD_get] at hx
    by_cases h : k < ds.length
    · rw [List.getElem?_eq_getElem h] at hx
      cases hx
      simpa using hs k h e1 w
    · rw [List.getElem?_eq_none (by omega)] at hx
      cases hx) fun e1 w => hd e1 (by rwa [enumD_len] at w)
theorem qL_ext {s t : List Rat} (hl : s.length = t.length) (h : ∀ k, qc s k = qc t k) : s = t := List.ext_getElem hl fun i h1 h2 => by rw [← qc_lt h1, ← qc_lt h2, h i]
theorem qc_mem {xs : List Rat} {P : Rat → Prop} (h0 : P 0) (h : ∀ x ∈ xs, P x) (k : Nat) : P (qc xs k) := by
  by_cases g : k < xs.length
  · rw [qc_lt g]; exact h _ (List.getElem_mem g)
  · rw [qc_ge (by omega)]; exact h0
theorem mem_qc {xs : List Rat} {P : Rat → Prop} (h : ∀ k, P (qc xs k)) : ∀ x ∈ xs, P x := fun x hx => by
  obtain ⟨i, hi, rfl⟩ := List.getElem_of_mem hx
  rw [← qc_lt hi]
  exact h i
def d_common_bottom : DS :=
  (sSeq (sSet 1 (eC (.int 1)))
  (sSeq (sFor (iSeq (eVar 0)) (gN 2) (sSet 1 (eOp fdivR (eOp mulR (eVar 1) (eOp ixR (eVar 2) (eC (.int 1)))) (eCall sp_common_divisor (aCons (eVar 1) (aCons (eOp ixR (eVar 2) (eC (.int 1))) aNil))))))
  (sRet (eVar 1))))

def d_as_quotient : DS :=
  (sSeq (sSet 1 (eCall sp_common_bottom (aCons (eVar 0) aNil)))
  (sSeq (sSet 2 (eCall sp_trimmed (aCons (eLc (iSeq (eVar 0)) (CT.one 4) tYesD (eOp mulR (eOp ixR (eVar 4) (eC (.int 0))) (eOp fdivR (eVar 1) (eOp ixR (eVar 4) (eC (.int 1))))) [4]) aNil)))
  (sSeq (sSet 3 (eCall sp_common_divisor (aCons (eCall sp_content (aCons (eVar 2) aNil)) (aCons (eVar 1) aNil))))
  (sRet (eTup (aCons (eLc (iSeq (eVar 2)) (CT.one 4) tYesD (eOp fdivR (eVar 4) (eVar 3)) [4]) (aCons (eOp fdivR (eVar 1) (eVar 3)) aNil)))))))

def d_row_product : DS :=
  (sSeq (sOwn 2 (eOp addR (eLst (aCons (eTup (aCons (eC (.int 0)) (aCons (eC (.int 1)) aNil))) aNil)) (eOp1 listR (eVar 0))))
  (sSeq (sFor (iListArg enumD (aCons (eVar 0) aNil)) (gTupD 2 (gConsD (gN 3) (gConsD (gN 4) gNilD))) (sStore 2 (eCall sp_minus (aCons (eOp ixR (eVar 2) (eVar 3)) (aCons (eCall sp_times (aCons (eVar 4) (aCons (eVar 1) aNil))) aNil))) (eVar 3)))
  (sRet (eVar 2))))

def d_row_sum : DS :=
  (sSeq (sOwn 3 (eOp addR (eOp1 listR (eVar 0)) (eOp mulR (eLst (aCons (eTup (aCons (eC (.int 0)) (aCons (eC (.int 1)) aNil))) aNil)) (eOp max2R (eC (.int 0)) (eOp subR (eOp1 lenR (eVar 1)) (eOp1 lenR (eVar 0)))))))
  (sSeq (sFor (iListArg enumD (aCons (eVar 1) aNil)) (gTupD 2 (gConsD (gN 4) (gConsD (gN 5) gNilD))) (sStore 3 (eCall sp_plus (aCons (eOp ixR (eVar 3) (eVar 4)) (aCons (eCall sp_times (aCons (eVar 5) (aCons (eVar 2) aNil))) aNil))) (eVar 4)))
  (sRet (eVar 3))))

theorem k_common_bottom : sp_common_bottom.Ok 3 d_common_bottom := by
  rintro ⟨xs, D⟩ ⟨h1, h2, h3⟩
  have h1 : 0 < D := h1
  have h2 : Sz 9000 (D : Int) := h2
  have h3 : ∀ q ∈ xs, q.den ∣ D := h3
  simp [entry, sp_common_bottom]
  simp -dsimp [d_common_bottom]
  refine forQ (rs := xs) (fun Q => by simp) (fun m e => ∃ (b : Nat) (s2 : Sl), e = [.sh (.lst (fL xs)), .sh (.int b), s2] ∧ 0 < b ∧ b ∣ D ∧ ∀ i, i < m → (qc xs i).den ∣ b) ⟨1, _, rfl, by decide, Nat.one_dvd _, fun i hi => by omega⟩ ?_ ?_
  · rintro m hm e ⟨b, s2, rfl, b0, bd, bi⟩
    obtain ⟨x, hx⟩ : ∃ x, x = qc xs m := ⟨_, rfl⟩
    have xd : x.den ∣ D := by rw [hx, qc_lt hm]; exact h3 _ (List.getElem_mem hm)
    rw [← hx]
    have xl := Nat.le_of_dvd h1 xd
    have bl := Nat.le_of_dvd h1 bd
    have bz : Sz 9000 (b : Int) := h2.le (by omega)
    have dz : Sz 9000 (x.den : Int) := h2.le (by omega)
    have m1 : IntMulOk (b : Int) (x.den : Int) := bz.mulOk dz (by decide)
    have g0 : 0 < Nat.gcd b x.den := Nat.gcd_pos_of_pos_left _ b0
    have gl : Nat.gcd b x.den ≤ x.den := Nat.gcd_le_right _ (Nat.pos_of_ne_zero x.den_nz)
    have eg : Int.gcd (b : Int) (x.den : Int) = Nat.gcd b x.den := rfl
    have d1 : ∀ y, DivOk y (Nat.gcd b x.den : Int) := fun y => Sz.divOk (n := 9000) (dz.le (by omega)) (by decide) (by omega)
    have e1 : Int.fdiv ((b : Int) * (x.den : Int)) (Nat.gcd b x.den : Int) = ((Nat.lcm b x.den : Nat) : Int) := by
      rw [Int.fdiv_eq_ediv_of_nonneg _ (by omega)]
      rfl
    simp -dsimp [m1, eg, d1, e1]
    refine hold ⟨_, _, rfl, Nat.lcm_pos b0 (Nat.pos_of_ne_zero x.den_nz), Nat.lcm_dvd bd xd, fun i hi => ?_⟩
    by_cases e : i = m
    · subst e
      rw [← hx]
      exact Nat.dvd_lcm_right _ _
    · exact Nat.dvd_trans (bi i (by omega)) (Nat.dvd_lcm_left _ _)
  · rintro e ⟨b, s2, rfl, b0, bd, bi⟩
    simp -dsimp
    refine ⟨b, rfl, b0, bd, fun q hq => ?_⟩
    obtain ⟨i, hi, rfl⟩ := List.getElem_of_mem hq
    rw [← qc_lt hi]
    exact bi i hi
theorem k_as_quotient : sp_as_quotient.Ok 5 d_as_quotient := by
  rintro ⟨xs, D, t⟩ ⟨hb, h1, h2, h3⟩
  have hb : BtOk D xs := hb
  have h1 : ∀ q ∈ xs, Sz t q.num := h1
  have h2 : t ≤ 100000 := h2
  have h3 : xs.length ≤ 1000 := h3
  obtain ⟨D0, DS, Dd⟩ := hb
  simp [entry, sp_as_quotient]
  unfold d_as_quotient
  refine cut (fun e => ∃ b : Nat, e = [.sh (.lst (fL xs)), .sh (.int b), .no, .no, .no] ∧ 0 < b ∧ b ∣ D ∧ ∀ q ∈ xs, q.den ∣ b) ?_ ?_
  · simp -dsimp
    refine c_common_bottom ⟨D0, DS, Dd⟩ fun b b1 b2 b3 => ?_
    simp -dsimp
    exact hold ⟨b, rfl, b1, b2, b3⟩
  rintro e ⟨b, rfl, b0, bD, bd⟩
  have bz : Sz 9000 (b : Int) := DS.le (by have := Nat.le_of_dvd D0 bD; omega)
  obtain ⟨q, hq⟩ : ∃ q, q = xs.map fun r => r.num * ((b / r.den : Nat) : Int) := ⟨_, rfl⟩
  have lq : q.length = xs.length := by rw [hq, List.length_map]
  have cq : ∀ k, (coef q k : Rat) = qc xs k * (b : Rat) := fun k => by
    by_cases hk : k < xs.length
    · have dv := bd _ (List.getElem_mem hk)
      obtain ⟨y, hy⟩ := dv
      have dp : 0 < xs[k].den := Nat.pos_of_ne_zero xs[k].den_nz
      rw [coef_lt (by omega), qc_lt hk]
      simp only [hq, List.getElem_map]
      have e1 : b / xs[k].den = y := by rw [hy, Nat.mul_div_cancel_left _ dp]
      have bq : (b : Rat) = (xs[k].den : Rat) * (y : Rat) := by rw [hy]; exact Rat.natCast_mul ..
      have yq : (((y : Nat) : Int) : Rat) = (y : Rat) := Rat.intCast_natCast _
      rw [e1, Rat.intCast_mul, num_eqQ xs[k], bq, yq]
      have dq : (((xs[k].den : Nat) : Int) : Rat) = (xs[k].den : Rat) := Rat.intCast_natCast _
      grind
    · rw [coef_ge (by omega), qc_ge (by omega), Rat.zero_mul]
      rfl
  refine cut (fun e => e = [.sh (.lst (fL xs)), .sh (.int b), .sh (lsD (trim q)), .no, .no]) ?_ ?_
  · simp -dsimp
    refine lcL (fL xs) q (by rw [lq]; simp) (by omega) (fun Q => by simp) (by simp) (fun k hk => ?_) ?_
    · have hk : k < xs.length := by simpa using hk
      rw [fL_get hk, coef_lt (by omega)]
      simp only [hq, List.getElem_map]
      have dv := bd _ (List.getElem_mem hk)
      have dl := Nat.le_of_dvd b0 dv
      have dz : Sz 9000 (xs[k].den : Int) := bz.le (by omega)
      have d1 : ∀ y, DivOk y (xs[k].den : Int) := fun y => Sz.divOk (n := 9000) dz (by decide) (den_ne _)
      have e1 : Int.fdiv (b : Int) (xs[k].den : Int) = ((b / xs[k].den : Nat) : Int) := by
        rw [Int.fdiv_eq_ediv_of_nonneg _ (by omega)]
        rfl
      have yl := Nat.div_le_self b xs[k].den
      generalize b / xs[k].den = y at e1 yl ⊢
      have z2 : Sz 9000 (y : Int) := bz.le (by omega)
      have m1 : IntMulOk xs[k].num (y : Int) := (h1 _ (List.getElem_mem hk)).mulOk z2 (by omega)
      simp -dsimp [d1, e1, m1]
    · simp -dsimp
      exact hold rfl
  rintro e rfl
  obtain ⟨u, hu⟩ : ∃ u, u = trim q := ⟨_, rfl⟩
  have tu : Tr u := by rw [hu]; exact trim_tr _
  have lu : u.length ≤ 1000 := by
    have := trim_len q
    rw [hu]
    omega
  have cu : ∀ k, (coef u k : Rat) = qc xs k * (b : Rat) := fun k => by rw [hu, coef_trim]; exact cq k
  rw [← hu]
  obtain ⟨g, hg⟩ : ∃ g, g = Int.gcd (contL u) (b : Int) := ⟨_, rfl⟩
  have gb : g ∣ b := by
    have := Int.gcd_dvd_right (contL u : Int) (b : Int)
    rw [← hg] at this
    exact Int.ofNat_dvd.mp this
  have gc : g ∣ contL u := by
    have := Int.gcd_dvd_left (contL u : Int) (b : Int)
    rw [← hg] at this
    exact Int.ofNat_dvd.mp this
  have g0 : 0 < g := Nat.pos_of_dvd_of_pos gb b0
  refine cut (fun e => e = [.sh (.lst (fL xs)), .sh (.int b), .sh (lsD u), .sh (.int g), .no]) ?_ ?_
  · have hg' : Nat.gcd (contL u) b = g := hg.symm
    simp -dsimp
    rw [hg']
    exact hold rfl
  rintro e rfl
  obtain ⟨c, hc⟩ := gb
  have c0 : 0 < c := Nat.pos_of_ne_zero fun z => by rw [z, Nat.mul_zero] at hc; omega
  have gb : g ∣ b := ⟨c, hc⟩
  have gz : Sz 9000 (g : Int) := bz.le (by have := Nat.le_of_dvd b0 gb; omega)
  have d1 : ∀ y, DivOk y (g : Int) := fun y => Sz.divOk (n := 9000) gz (by decide) (by omega)
  have e1 : Int.fdiv (b : Int) (g : Int) = (c : Int) := by
    rw [hc, Int.natCast_mul, Int.mul_fdiv_cancel_left _ (by omega)]
  obtain ⟨p, hp⟩ : ∃ p, p = u.map fun x => Int.fdiv x g := ⟨_, rfl⟩
  have lp : p.length = u.length := by rw [hp, List.length_map]
  have dv : ∀ x ∈ u, (g : Int) ∣ x := fun x hx => Int.dvd_trans (Int.ofNat_dvd.mpr gc) (cont_dvd x hx)
  have back : p.map (fun x => (g : Int) * x) = u := by rw [hp]; exact fdiv_back dv
  have cp : ∀ k, (g : Int) * coef p k = coef u k := fun k => by
    rw [← back, coef_map (f := fun x => (g : Int) * x) (Int.mul_zero _)]
  simp -dsimp
  refine lcL (iL u) p (by rw [lp]; simp) (by omega) (fun Q => by simp) (by simp) (fun k hk => ?_) ?_
  · have hk : k < u.length := by simpa using hk
    rw [iL_get hk, coef_lt (by omega)]
    simp only [hp, List.getElem_map]
    simp -dsimp [d1]
  · simp -dsimp [d1, e1]
    refine ⟨p, c, ⟨rfl, rfl⟩, ?_, c0, Nat.dvd_trans ⟨g, by rw [hc, Nat.mul_comm]⟩ bD, ?_, fun k => ?_⟩
    · by_cases u0 : u.length = 0
      · exact .inl (List.eq_nil_of_length_eq_zero (by omega))
      · obtain ⟨m, hm⟩ : ∃ m, u.length = m + 1 := ⟨u.length - 1, by omega⟩
        refine tr_of_last (m := m) (by omega) fun z => tr_len tu hm ?_
        rw [← cp m, z, Int.mul_zero]
    · have c1 : contL u = g * contL p := by rw [← back, cont_scale]
      have e2 : Nat.gcd (contL u) b = g := hg.symm
      rw [c1, hc, Nat.gcd_mul_left] at e2
      have : Nat.gcd (contL p) c = 1 := Nat.eq_of_mul_eq_mul_left g0 (by rw [e2, Nat.mul_one])
      exact this
    · have b1 : (b : Rat) = (g : Rat) * (c : Rat) := by
        rw [← Rat.natCast_mul, ← hc]
      have c1 := cu k
      rw [← cp k, Rat.intCast_mul, b1] at c1
      have gq : (((g : Nat) : Int) : Rat) = (g : Rat) := Rat.intCast_natCast _
      rw [gq] at c1
      have gn : (g : Rat) ≠ 0 := by
        intro z
        have : (g : Rat) = ((0 : Nat) : Rat) := z
        have := Rat.natCast_inj.mp this
        omega
      have e3 : (g : Rat) * ((coef p k : Int) : Rat) = (g : Rat) * (qc xs k * (c : Rat)) := by rw [c1]; grind
      clear c1 b1
      grind
theorem rsz0 {n : Nat} (h : 0 < n) : RSz n 0 := ⟨Nat.two_pow_pos _, Nat.one_lt_two_pow (by omega)⟩
theorem k_row_product : sp_row_product.Ok 5 d_row_product := by
  rintro ⟨xs, a, n, m⟩ ⟨h1, h2, h3, h4, h5⟩
  have h1 : ∀ q ∈ xs, RSz n q := h1
  have h2 : RSz m a := h2
  have h3 : n + m ≤ 4000 := h3
  have h4 : 0 < m := h4
  have h5 : xs.length ≤ 1000 := h5
  simp [entry, sp_row_product]
  unfold d_row_product
  refine cut (fun e => e = [.sh (.lst (fL xs)), .sh (frD a), .ow (fL (0 :: xs)), .no, .no]) ?_ ?_
  · simp -dsimp
    exact ⟨by omega, hold rfl⟩
  rintro e rfl
  simp -dsimp
  refine forED (ds := fL xs) (fun Q => by simp) (fun j e => ∃ ys s3 s4, e = [.sh (.lst (fL xs)), .sh (frD a), .ow (fL ys), s3, s4] ∧ ys.length = xs.length + 1 ∧ ∀ k, qc ys k = qc (0 :: xs) k - if k < j then qc xs k * a else 0) ⟨_, _, _, rfl, by simp, fun k => by rw [if_neg (by omega)]; grind⟩ ?_ ?_
  · rintro j hj e ⟨ys, s3, s4, rfl, ly, hy⟩
    have hj : j < xs.length := by simpa using hj
    have xr := h1 _ (List.getElem_mem hj)
    have a1 : atI (fL ys) (j : Int) = some (frD (qc ys j)) := atI_f (by omega)
    have a2 : ixN ys.length (j : Int) = some j := ixN_n' (by omega)
    have yr : RSz 4000 (qc ys j) := by
      rw [hy, if_neg (by omega)]
      have : RSz n (qc (0 :: xs) j) ∨ qc (0 :: xs) j = 0 := by
        cases j with
        | zero => exact .inr rfl
        | succ j => exact .inl (by rw [qc_cons]; show RSz n (qc xs j); rw [qc_lt (by omega)]; exact h1 _ (List.getElem_mem _))
      have e0 : qc (0 :: xs) j - 0 = qc (0 :: xs) j := by grind
      rw [e0]
      rcases this with h | h
      · exact h.up (by omega)
      · rw [h]; exact rsz0 (by decide)
    have x4 : RSz 4000 xs[j] := xr.up (by omega)
    have a4 : RSz 4000 a := h2.up (by omega)
    have p4 : RSz 4000 (xs[j] * a) := (xr.mul h2).up h3
    rw [fL_get hj]
    simp -dsimp [a1, a2, x4, a4, p4, yr]
    refine hold ⟨_, _, _, rfl, by simpa using ly, fun k => ?_⟩
    rw [qc_set (by omega), hy j, hy k]
    by_cases e : k = j
    · subst e
      rw [if_pos rfl, if_neg (by omega), if_pos (by omega), qc_lt (p := xs) hj]
      grind
    · rw [if_neg e]
      by_cases g : k < j
      · rw [if_pos g, if_pos (by omega)]
      · rw [if_neg g, if_neg (by omega)]
  · rintro e ⟨ys, s3, s4, rfl, ly, hy⟩
    simp -dsimp
    have : ys = rpL xs a := by
      refine qL_ext (by rw [ly]; unfold rpL; rw [rpA_len]) fun k => ?_
      unfold rpL
      rw [hy, qc_rpA, fL_len]
      by_cases g : k < xs.length
      · rw [if_pos g]
      · rw [if_neg g, qc_ge (p := xs) (by omega), Rat.zero_mul]
    rw [this]
theorem k_row_sum : sp_row_sum.Ok 6 d_row_sum := by
  rintro ⟨xs, zs, a, n, m⟩ ⟨h1, h2, h3, h4, h5, h6⟩
  have h1 : ∀ q ∈ xs, RSz 4000 q := h1
  have h2 : ∀ q ∈ zs, RSz n q := h2
  have h3 : RSz m a := h3
  have h4 : n + m ≤ 4000 := h4
  have h5 : xs.length ≤ 1000 := h5
  have h6 : zs.length ≤ 1000 := h6
  simp [entry, sp_row_sum]
  unfold d_row_sum
  have z0 : D.tup [.int 0, .int 1] = frD 0 := rfl
  refine cut (fun e => ∃ ys, e = [.sh (.lst (fL xs)), .sh (.lst (fL zs)), .sh (frD a), .ow (fL ys), .no, .no] ∧ ys.length = max xs.length zs.length ∧ ∀ k, qc ys k = qc xs k) ?_ ?_
  · have e1 : fL xs ++ fL (List.replicate (zs.length - xs.length) 0) = fL (xs ++ List.replicate (zs.length - xs.length) 0) := by simp only [fL, List.map_append]
    have mx : (if xs.length < zs.length then (zs.length : Int) - (xs.length : Int) else 0).toNat = zs.length - xs.length := by split <;> omega
    simp -dsimp [mx, z0, e1]
    refine ⟨by omega, by omega, hold ⟨_, rfl, by simp; omega, fun k => ?_⟩⟩
    by_cases g : k < xs.length
    · rw [qc_lt (by simp; omega), qc_lt g, List.getElem_append_left g]
    · rw [qc_ge (p := xs) (by omega)]
      by_cases g' : k < zs.length
      · rw [qc_lt (by simp; omega), List.getElem_append_right (by omega)]
        simp
      · rw [qc_ge (by simp; omega)]
  rintro e ⟨ys0, rfl, ly0, hy0⟩
  simp -dsimp
  refine forED (ds := fL zs) (fun Q => by simp) (fun j e => ∃ ys s4 s5, e = [.sh (.lst (fL xs)), .sh (.lst (fL zs)), .sh (frD a), .ow (fL ys), s4, s5] ∧ ys.length = max xs.length zs.length ∧ ∀ k, qc ys k = qc xs k + if k < j then qc zs k * a else 0) ⟨_, _, _, rfl, ly0, fun k => by rw [if_neg (by omega), hy0]; grind⟩ ?_ ?_
  · rintro j hj e ⟨ys, s4, s5, rfl, ly, hy⟩
    have hj : j < zs.length := by simpa using hj
    have zr := h2 _ (List.getElem_mem hj)
    have a1 : atI (fL ys) (j : Int) = some (frD (qc ys j)) := atI_f (by omega)
    have a2 : ixN ys.length (j : Int) = some j := ixN_n' (by omega)
    have yr : RSz 4000 (qc ys j) := by
      rw [hy, if_neg (by omega)]
      have e0 : qc xs j + 0 = qc xs j := by grind
      rw [e0]
      exact qc_mem (rsz0 (by decide)) h1 j
    have x4 : RSz 4000 zs[j] := zr.up (by omega)
    have a4 : RSz 4000 a := h3.up (by omega)
    have p4 : RSz 4000 (zs[j] * a) := (zr.mul h3).up h4
    rw [fL_get hj]
    simp -dsimp [a1, a2, x4, a4, p4, yr]
    refine hold ⟨_, _, _, rfl, by simpa using ly, fun k => ?_⟩
    rw [qc_set (by omega), hy j, hy k]
    by_cases e : k = j
    · subst e
      rw [if_pos rfl, if_neg (by omega), if_pos (by omega), qc_lt (p := zs) hj]
      grind
    · rw [if_neg e]
      by_cases g : k < j
      · rw [if_pos g, if_pos (by omega)]
      · rw [if_neg g, if_neg (by omega)]
  · rintro e ⟨ys, s4, s5, rfl, ly, hy⟩
    simp -dsimp
    have : ys = rsL xs zs a := by
      refine qL_ext (by rw [ly, rsL_len]) fun k => ?_
      rw [hy, qc_rsL, fL_len]
      by_cases g : k < zs.length
      · rw [if_pos g]
      · rw [if_neg g, qc_ge (p := zs) (by omega), Rat.zero_mul]
    rw [this]
end Dn

set_option Elab.async false
set_option linter.all false
set_option maxRecDepth 100000
set_option maxHeartbeats 4000000
set_option exponentiation.threshold 100000
/-! k01: interpolation -/
namespace Dn
open PySem PySem.Spec PyProof.Rows L2
def pqD (x : Rat × Rat) : D := .tup [frD x.1, frD x.2]
def pL (ps : List (Rat × Rat)) : List D := ps.map pqD
@[simp] theorem pL_len {ps : List (Rat × Rat)} : (pL ps).length = ps.length := by simp [pL]
theorem pL_get {ps : List (Rat × Rat)} {j : Nat} (h : j < ps.length) : (pL ps)[j]'(by simpa using h) = .tup [frD ps[j].1, frD ps[j].2] := by simp [pL, pqD]
def pX (ps : List (Rat × Rat)) (j : Nat) : Rat := (ps.getD j (0, 0)).1
def pY (ps : List (Rat × Rat)) (j : Nat) : Rat := (ps.getD j (0, 0)).2
theorem pX_lt {ps : List (Rat × Rat)} {j : Nat} (h : j < ps.length) : pX ps j = ps[j].1 := by
  unfold pX
  rw [List.getD_eq_getElem?_getD, List.getElem?_eq_getElem h]
  rfl
theorem pY_lt {ps : List (Rat × Rat)} {j : Nat} (h : j < ps.length) : pY ps j = ps[j].2 := by
  unfold pY
  rw [List.getD_eq_getElem?_getD, List.getElem?_eq_getElem h]
  rfl
theorem fL_snoc {xs : List Rat} {x : Rat} : fL (xs ++ [x]) = fL xs ++ [frD x] := by simp only [fL, List.map_append, List.map_cons, List.map_nil]
structure PtsOk (ps : List (Rat × Rat)) : Prop where
  len : ps.length ≤ 6
  sx : ∀ j, j < ps.length → RSz 4 (pX ps j)
  sy : ∀ j, j < ps.length → RSz 5 (pY ps j)
  ne : ∀ i j, i < ps.length → j < ps.length → i ≠ j → pX ps i ≠ pX ps j
structure Thr (ps : List (Rat × Rat)) (p : List Int) (b : Nat) : Prop where
  tr : Tr p
  pos : 0 < b
  one : Int.gcd (contL p) (b : Int) = 1
  sp : ∀ x ∈ p, Sz 8800 x
  sb : Sz 7600 (b : Int)
  len : p.length ≤ ps.length
  val : ∀ j, j < ps.length → evR p (pX ps j) = pY ps j * (b : Rat)
def sp_through : Spec := ⟨List (Rat × Rat), fun x => [.lst (pL x)], PtsOk, fun x r => ∃ p b, r = .sh (ovD p (b : Nat)) ∧ Thr x p b⟩
theorem c_through {Q : Rv → Prop} {f : Fx Q} {ps : List (Rat × Rat)} (h : PtsOk ps) (q : ∀ p (b : Nat), Thr ps p b → Q (.sh (ovD p b))) : sp_through.Run [.lst (pL ps)] Q f := Spec.go sp_through ps rfl h fun _ hr => by obtain ⟨p, b, rfl, h1⟩ := hr; exact q p b h1
theorem evQ_scale {s t : List Rat} {c x : Rat} (h : ∀ k, qc s k = qc t k * c) : evQ s x = c * evQ t x := by
  rw [evQ_ext s (rsL [] t c) x fun k => by rw [h, qc_rsL, qc_nil, Rat.zero_add], evQ_rsL, evQ_nil, Rat.zero_add]
theorem quo_ev {D b : Nat} {xs : List Rat} {p : List Int} (h : Quo D xs p b) (x : Rat) : evR p x = (b : Rat) * evQ xs x := by
  rw [← evQ_int]
  exact evQ_scale fun k => by
    have := h.co k
    show qc (p.map _) k = _
    rw [qc_int, this]
theorem quo_len {D b : Nat} {xs : List Rat} {p : List Int} (h : Quo D xs p b) : p.length ≤ xs.length := by
  rw [← tr_trim h.tr]
  refine trim_length fun k hk => ?_
  have := h.co k
  rw [qc_ge hk, Rat.zero_mul] at this
  exact Rat.intCast_inj.mp this
theorem quo_sz {D b s t : Nat} {xs : List Rat} {p : List Int} (h : Quo D xs p b) (hD : 0 < D) (hs : ∀ q ∈ xs, Sz t q.num) (hd : Sz s (D : Int)) : (∀ x ∈ p, Sz (t + s) x) ∧ Sz s (b : Int) := by
  have sb : Sz s (b : Int) := hd.le (by have := Nat.le_of_dvd hD h.dvd; omega)
  refine ⟨mem_all fun k => ?_, sb⟩
  have nz : Sz t (qc xs k).num := qc_mem (P := fun q => Sz t q.num) (Nat.two_pow_pos _) hs k
  have e := h.co k
  have m : RN (t + s) (((qc xs k).den : Nat) + 1 + 1) (qc xs k * (b : Rat)) := by
    have bq : (b : Rat) = (((b : Nat) : Int) : Rat) := (Rat.intCast_natCast _).symm
    rw [bq]
    refine RN.mul ⟨nz, ?_⟩ ⟨sb, ?_⟩
    · show (qc xs k).den < 2 ^ ((qc xs k).den + 1)
      have := Nat.lt_two_pow_self (n := (qc xs k).den + 1)
      omega
    · show (1 : Nat) < 2 ^ 1
      decide
  rw [← e] at m
  exact m.1
theorem den_prod {N : Nat} : ∀ (xs : List Rat), (∀ q ∈ xs, RSz N q) → ∃ D, 0 < D ∧ D < 2 ^ (N * xs.length + 1) ∧ ∀ q ∈ xs, q.den ∣ D
  | [], _ => ⟨1, by decide, by simp, fun q hq => by cases hq⟩
  | a :: t, h => by
    obtain ⟨D, h1, h2, h3⟩ := den_prod t fun q hq => h q (List.mem_cons_of_mem _ hq)
    have ad := (h a List.mem_cons_self).2
    refine ⟨a.den * D, Nat.mul_pos (Nat.pos_of_ne_zero a.den_nz) h1, ?_, fun q hq => ?_⟩
    · have e : N * (a :: t).length + 1 = N + (N * t.length + 1) := by rw [List.length_cons, Nat.mul_succ]; omega
      rw [e, Nat.pow_add]
      exact Nat.mul_lt_mul_of_lt_of_lt ad h2
    · rcases List.mem_cons.mp hq with rfl | hq
      · exact Nat.dvd_mul_right _ _
      · exact Nat.dvd_trans (h3 q hq) (Nat.dvd_mul_left _ _)
def lN : Nat → Nat
  | 0 => 5
  | k + 1 => 2 * lN k + 10
def bN : Nat → Nat
  | 0 => 1
  | k + 1 => 2 * bN k + 5
def fN : Nat → Nat
  | 0 => 1
  | k + 1 => fN k + (bN k + lN k) + 1
theorem nums6 : ∀ k, k < 6 → lN k ≤ 470 ∧ bN k ≤ 187 ∧ fN k ≤ 600 := by decide
theorem nums7 : ∀ k, k ≤ 6 → fN k ≤ 1240 := by
  intro k hk
  have : k = 0 ∨ k = 1 ∨ k = 2 ∨ k = 3 ∨ k = 4 ∨ k = 5 ∨ k = 6 := by omega
  rcases this with rfl | rfl | rfl | rfl | rfl | rfl | rfl <;> decide
theorem fN_pos : ∀ k, 0 < fN k
  | 0 => by decide
  | k + 1 => by rw [fN]; omega
theorem lN_pos : ∀ k, 0 < lN k
  | 0 => by decide
  | k + 1 => by rw [lN]; omega
theorem bN_pos : ∀ k, 0 < bN k
  | 0 => by decide
  | k + 1 => by rw [bN]; omega
/-- after k points -/
structure Itp (ps : List (Rat × Rat)) (k : Nat) (fs bs ls : List Rat) : Prop where
  lf : fs.length = k
  lb : bs.length = k + 1
  ll : ls.length = ps.length - k
  b0 : ∀ j, j < k → evQ bs (pX ps j) = 0
  f0 : ∀ j, j < k → evQ fs (pX ps j) = pY ps j
  l0 : ∀ o, k + o < ps.length → qc ls o * evQ bs (pX ps (k + o)) = pY ps (k + o) - evQ fs (pX ps (k + o))
  sf : ∀ q ∈ fs, RSz (fN k) q
  sb : ∀ q ∈ bs, RSz (bN k) q
  sl : ∀ q ∈ ls, RSz (lN k) q
theorem itp_step {ps : List (Rat × Rat)} {k : Nat} {fs bs ls ls' : List Rat} (P : PtsOk ps) (h : Itp ps k fs bs ls) (hk : k < ps.length) (hl : ls'.length = ps.length - (k + 1)) (h' : ∀ o, k + 1 + o < ps.length → qc ls' o = (qc ls (o + 1) - qc ls 0) / (pX ps (k + 1 + o) - pX ps k)) : Itp ps (k + 1) (rsL fs bs (qc ls 0)) (rpL bs (pX ps k)) ls' := by
  have l00 := h.l0 0 (by omega)
  rw [Nat.add_zero] at l00
  have s0 : RSz (lN k) (qc ls 0) := qc_mem (rsz0 (lN_pos k)) h.sl 0
  refine ⟨by rw [rsL_len, h.lf, h.lb]; omega, by unfold rpL; rw [rpA_len, h.lb], hl, fun j hj => ?_, fun j hj => ?_, fun o ho => ?_, mem_qc fun i => ?_, mem_qc fun i => ?_, fun q hq => ?_⟩
  · rw [evQ_rpL]
    by_cases e : j = k
    · subst e; grind
    · rw [h.b0 j (by omega), Rat.mul_zero]
  · rw [evQ_rsL]
    by_cases e : j = k
    · subst e; grind
    · rw [h.b0 j (by omega), h.f0 j (by omega)]; grind
  · rw [evQ_rpL, evQ_rsL, h' o ho]
    have e := h.l0 (o + 1) (by omega)
    rw [show k + (o + 1) = k + 1 + o by omega] at e
    have d : pX ps (k + 1 + o) - pX ps k ≠ 0 := by
      have := P.ne (k + 1 + o) k ho hk (by omega)
      grind
    have c : (qc ls (o + 1) - qc ls 0) / (pX ps (k + 1 + o) - pX ps k) * (pX ps (k + 1 + o) - pX ps k) = qc ls (o + 1) - qc ls 0 := Rat.div_mul_cancel d
    generalize (qc ls (o + 1) - qc ls 0) / (pX ps (k + 1 + o) - pX ps k) = z at c ⊢
    have e2 : z * ((pX ps (k + 1 + o) - pX ps k) * evQ bs (pX ps (k + 1 + o))) = (z * (pX ps (k + 1 + o) - pX ps k)) * evQ bs (pX ps (k + 1 + o)) := by grind
    rw [e2, c]
    grind
  · rw [qc_rsL]
    have a := qc_mem (P := RSz (fN k)) (rsz0 (fN_pos k)) h.sf i
    have b := qc_mem (P := RSz (bN k)) (rsz0 (bN_pos k)) h.sb i
    exact (a.add (b.mul s0)).up (by rw [fN]; omega)
  · unfold rpL
    rw [qc_rpA]
    have b := qc_mem (P := RSz (bN k)) (rsz0 (bN_pos k)) h.sb i
    have b' : RSz (bN k) (qc (0 :: bs) i) := qc_mem (P := RSz (bN k)) (rsz0 (bN_pos k)) (fun x hx => by
      rcases List.mem_cons.mp hx with rfl | hx
      · exact rsz0 (bN_pos k)
      · exact h.sb x hx) i
    exact (b'.sub (b.mul (P.sx k hk))).up (by rw [bN]; omega)
  · obtain ⟨o, ho, rfl⟩ := List.getElem_of_mem hq
    rw [← qc_lt ho, h' o (by omega)]
    have a := qc_mem (P := RSz (lN k)) (rsz0 (lN_pos k)) h.sl (o + 1)
    have d : pX ps (k + 1 + o) - pX ps k ≠ 0 := by
      have := P.ne (k + 1 + o) k (by omega) hk (by omega)
      grind
    exact ((a.sub s0).div ((P.sx _ (by omega)).sub (P.sx _ hk)) d).up (by rw [lN]; omega)
def d_through : DS :=
  (sSeq (sSet 1 (eLst aNil))
  (sSeq (sSet 2 (eLst (aCons (eTup (aCons (eC (.int 1)) (aCons (eC (.int 1)) aNil))) aNil)))
  (sSeq (sSet 3 (eLc (iSeq (eVar 0)) (CT.two 9 10) tYesD (eVar 10) [9, 10]))
  (sSeq (sFor (iListArg enumD (aCons (eVar 0) aNil)) (gTupD 2 (gConsD (gN 4) (gConsD (gN 5) gNilD))) (sSeq (sSet 1 (eCall sp_row_sum (aCons (eVar 1) (aCons (eVar 2) (aCons (eOp ixR (eVar 3) (eC (.int 0))) aNil)))))
  (sSeq (sSet 2 (eCall sp_row_product (aCons (eVar 2) (aCons (eOp ixR (eVar 5) (eC (.int 0))) aNil))))
  (sSeq (sOwn 6 (eLst aNil))
  (sSeq (sFor (iRange2 (aCons (eC (.int 1)) (aCons (eOp1 lenR (eVar 3)) aNil))) (gN 7) (sSeq (sSet 8 (eCall sp_minus (aCons (eOp ixR (eOp ixR (eVar 0) (eOp addR (eVar 4) (eVar 7))) (eC (.int 0))) (aCons (eOp ixR (eVar 5) (eC (.int 0))) aNil))))
  (sExpr (eApp 6 (eCall sp_over (aCons (eCall sp_minus (aCons (eOp ixR (eVar 3) (eVar 7)) (aCons (eOp ixR (eVar 3) (eC (.int 0))) aNil))) (aCons (eVar 8) aNil)))))))
  (sSet 3 (eVar 6)))))))
  (sRet (eCall sp_as_quotient (aCons (eVar 1) aNil)))))))

theorem k_through : sp_through.Ok 11 d_through := by
  intro (ps : List (Rat × Rat)) (P : PtsOk ps)
  have lp := P.len
  simp [entry, sp_through]
  unfold d_through
  have o1 : D.tup [.int 1, .int 1] = frD 1 := rfl
  obtain ⟨ys, hys⟩ : ∃ ys, ys = ps.map fun x => x.2 := ⟨_, rfl⟩
  have ly : ys.length = ps.length := by rw [hys, List.length_map]
  have cy : ∀ j, j < ps.length → qc ys j = pY ps j := fun j hj => by
    rw [qc_lt (by omega), pY_lt hj]
    simp [hys]
  refine cut (fun e => e = [.sh (.lst (pL ps)), .sh (.lst (fL [])), .no, .no, .no, .no, .no, .no, .no, .no, .no]) ?_ ?_
  · simp -dsimp
    exact hold rfl
  rintro e rfl
  refine cut (fun e => e = [.sh (.lst (pL ps)), .sh (.lst (fL [])), .sh (.lst (fL [1])), .no, .no, .no, .no, .no, .no, .no, .no]) ?_ ?_
  · simp -dsimp [o1]
    exact hold rfl
  rintro e rfl
  refine cut (fun e => ∃ s9 s10, e = [.sh (.lst (pL ps)), .sh (.lst (fL [])), .sh (.lst (fL [1])), .sh (.lst (fL ys)), .no, .no, .no, .no, .no, s9, s10]) ?_ ?_
  · simp -dsimp
    refine lc_map (pL ps) (fL ys) (by simp [ly]) (by simp; omega) (fun Q => by simp) (by simp) (fun j hj => ?_) ?_
    · have hj : j < ps.length := by simpa using hj
      rw [pL_get hj, fL_get (by omega)]
      simp only [hys, List.getElem_map]
      simp -dsimp
    · simp -dsimp
      exact hold ⟨_, _, rfl⟩
  rintro e ⟨s9, s10, rfl⟩
  refine cut (fun e => ∃ fs bs ls s3 s4 s5 s6 s7 s8, e = [.sh (.lst (pL ps)), .sh (.lst (fL fs)), .sh (.lst (fL bs)), s3, s4, s5, s6, s7, s8, s9, s10] ∧ Itp ps ps.length fs bs ls) ?_ ?_
  · simp -dsimp
    refine forED (ds := pL ps) (fun Q => by simp) (fun k e => ∃ fs bs ls s4 s5 s6 s7 s8, e = [.sh (.lst (pL ps)), .sh (.lst (fL fs)), .sh (.lst (fL bs)), .sh (.lst (fL ls)), s4, s5, s6, s7, s8, s9, s10] ∧ Itp ps k fs bs ls) ⟨[], [1], ys, _, _, _, _, _, rfl, rfl, rfl, by omega, fun j hj => by omega, fun j hj => by omega, fun o ho => ?_, fun q hq => absurd hq (by simp), fun q hq => ?_, fun q hq => ?_⟩ ?_ ?_
    · rw [Nat.zero_add, cy o (by omega), evQ_nil, evQ_cons, evQ_nil]
      grind
    · rw [List.mem_singleton.mp hq]
      exact ⟨by decide, by decide⟩
    · obtain ⟨j, hj, rfl⟩ := List.getElem_of_mem hq
      rw [← qc_lt hj, cy j (by omega)]
      exact P.sy j (by omega)
    · rintro k hk e ⟨fs, bs, ls, s4, s5, s6, s7, s8, rfl, I⟩
      have hk : k < ps.length := by simpa using hk
      obtain ⟨n1, n2, n3⟩ := nums6 k (by omega)
      have s0 : RSz (lN k) (qc ls 0) := qc_mem (rsz0 (lN_pos k)) I.sl 0
      rw [pL_get hk, ← pX_lt hk, ← pY_lt hk]
      have a0 : ls[0]? = some (qc ls 0) := by rw [List.getElem?_eq_getElem (by have := I.ll; omega), qc_lt (by have := I.ll; omega)]
      have lf := I.lf
      have lb := I.lb
      have ll := I.ll
      obtain ⟨r0, hr0⟩ : ∃ r0, r0 = rsL fs bs (qc ls 0) := ⟨_, rfl⟩
      obtain ⟨r1, hr1⟩ : ∃ r1, r1 = rpL bs (pX ps k) := ⟨_, rfl⟩
      refine cut (fun e => e = [.sh (.lst (pL ps)), .sh (.lst (fL r0)), .sh (.lst (fL bs)), .sh (.lst (fL ls)), .sh (.int k), .sh (.tup [frD (pX ps k), frD (pY ps k)]), s6, s7, s8, s9, s10]) ?_ ?_
      · simp -dsimp [a0]
        refine c_row_sum (n := bN k) (m := lN k) ⟨fun q hq => (I.sf q hq).up (by omega), I.sb, s0, by omega, by omega, by omega⟩ ?_
        rw [← hr0]
        simp -dsimp
        exact hold rfl
      rintro e rfl
      refine cut (fun e => e = [.sh (.lst (pL ps)), .sh (.lst (fL r0)), .sh (.lst (fL r1)), .sh (.lst (fL ls)), .sh (.int k), .sh (.tup [frD (pX ps k), frD (pY ps k)]), s6, s7, s8, s9, s10]) ?_ ?_
      · simp -dsimp
        refine c_row_product (n := bN k) (m := 4) ⟨I.sb, P.sx k hk, by omega, by decide, by omega⟩ ?_
        rw [← hr1]
        simp -dsimp
        exact hold rfl
      rintro e rfl
      refine cut (fun e => e = [.sh (.lst (pL ps)), .sh (.lst (fL r0)), .sh (.lst (fL r1)), .sh (.lst (fL ls)), .sh (.int k), .sh (.tup [frD (pX ps k), frD (pY ps k)]), .ow (fL []), s7, s8, s9, s10]) ?_ ?_
      · simp -dsimp
        exact hold rfl
      rintro e rfl
      refine cut (fun e => ∃ xs s7 s8, e = [.sh (.lst (pL ps)), .sh (.lst (fL r0)), .sh (.lst (fL r1)), .sh (.lst (fL ls)), .sh (.int k), .sh (.tup [frD (pX ps k), frD (pY ps k)]), .ow (fL xs), s7, s8, s9, s10] ∧ xs.length = ps.length - (k + 1) ∧ ∀ o, k + 1 + o < ps.length → qc xs o = (qc ls (o + 1) - qc ls 0) / (pX ps (k + 1 + o) - pX ps k)) ?_ ?_
      · simp -dsimp
        refine forR2 (m := 1) (n := ls.length) (by decide) (by omega) (fun Q => by simp) (fun j e => ∃ xs s7 s8, e = [.sh (.lst (pL ps)), .sh (.lst (fL r0)), .sh (.lst (fL r1)), .sh (.lst (fL ls)), .sh (.int k), .sh (.tup [frD (pX ps k), frD (pY ps k)]), .ow (fL xs), s7, s8, s9, s10] ∧ xs.length + 1 = j ∧ j ≤ ls.length ∧ ∀ o, o + 1 < j → qc xs o = (qc ls (o + 1) - qc ls 0) / (pX ps (k + 1 + o) - pX ps k)) ⟨[], _, _, rfl, rfl, by omega, fun o ho => by omega⟩ ?_ ?_
        · rintro j j1 hj e ⟨xs, s7, s8, rfl, lx, jl, hx⟩
          have kj : k + j < ps.length := by omega
          have a1 : (pL ps)[k + j]? = some (.tup [frD (pX ps (k + j)), frD (pY ps (k + j))]) := by
            rw [List.getElem?_eq_getElem (by simpa using kj), pL_get kj, pX_lt kj, pY_lt kj]
          have a2 : ls[j]? = some (qc ls j) := by rw [List.getElem?_eq_getElem hj, qc_lt hj]
          have sj : RSz (lN k) (qc ls j) := qc_mem (rsz0 (lN_pos k)) I.sl j
          have x4 : ∀ i, i < ps.length → RSz 4000 (pX ps i) := fun i hi => (P.sx i hi).up (by decide)
          have d9 : RSz 9 (pX ps (k + j) - pX ps k) := ((P.sx _ kj).sub (P.sx _ hk)).up (by decide)
          have d4 : RSz 4000 (pX ps (k + j) - pX ps k) := d9.up (by decide)
          have m4 : RSz 4000 (qc ls j - qc ls 0) := (sj.sub s0).up (by omega)
          have d0 : pX ps (k + j) - pX ps k ≠ 0 := by
            have := P.ne (k + j) k kj hk (by omega)
            grind
          have ak : atI (pL ps) ((k : Int) + (j : Int)) = some (.tup [frD (pX ps (k + j)), frD (pY ps (k + j))]) := by
            rw [show (k : Int) + (j : Int) = ((k + j : Nat) : Int) by omega, atI_of, a1]
          simp -dsimp [ak, a2, a0, x4 _ kj, x4 _ hk, d4, m4, d0, sj.up (show lN k ≤ 4000 by omega), s0.up (show lN k ≤ 4000 by omega)]
          refine ⟨by omega, hold ⟨xs ++ [(qc ls j - qc ls 0) / (pX ps (k + j) - pX ps k)], .sh (.int j), .sh (frD (pX ps (k + j) - pX ps k)), by rw [fL_snoc], by simp; omega, by omega, fun o ho => ?_⟩⟩
          · by_cases e : o + 1 < j
            · rw [qc_lt (by simp; omega), List.getElem_append_left (by omega), ← qc_lt, hx o e]
            · have e : j = o + 1 := by omega
              subst e
              rw [qc_lt (by simp; omega), List.getElem_append_right (by omega)]
              simp only [List.getElem_singleton]
              rw [show k + (o + 1) = k + 1 + o by omega]
        · rintro j e j1 j2 ⟨xs, s7, s8, rfl, lx, jl, hx⟩
          exact ⟨xs, s7, s8, rfl, by omega, fun o ho => hx o (by omega)⟩
      rintro e ⟨xs, s7, s8, rfl, lx, hx⟩
      simp -dsimp
      have I' := itp_step P I hk lx hx
      rw [← hr0, ← hr1] at I'
      exact hold ⟨_, _, _, _, _, _, _, _, rfl, I'⟩
    · rintro e ⟨fs, bs, ls, s4, s5, s6, s7, s8, rfl, I⟩
      rw [pL_len] at I
      exact ⟨fs, bs, ls, _, _, _, _, _, _, rfl, I⟩
  rintro e ⟨fs, bs, ls, s3, s4, s5, s6, s7, s8, rfl, I⟩
  have n7 := nums7 ps.length lp
  obtain ⟨D, D0, Dl, Dd⟩ := den_prod fs I.sf
  have lf := I.lf
  have dz : Sz 7500 (D : Int) := by
    have : fN ps.length * fs.length ≤ 1240 * 6 := Nat.mul_le_mul n7 (by omega)
    exact Nat.lt_of_lt_of_le Dl (Nat.pow_le_pow_right (by decide) (by omega))
  have nz : ∀ q ∈ fs, Sz 1240 q.num := fun q hq => (I.sf q hq).num.up n7
  simp -dsimp
  refine c_as_quotient (D := D) (t := 1240) ⟨⟨D0, dz.up (by decide), Dd⟩, nz, by decide, by omega⟩ fun p b h => ?_
  obtain ⟨z1, z2⟩ := quo_sz h D0 nz dz
  have l := quo_len h
  simp -dsimp
  refine ⟨p, b, ⟨rfl, rfl⟩, h.tr, h.pos, h.one, fun x hx => (z1 x hx).up (by decide), z2.up (by decide), by omega, fun j hj => ?_⟩
  rw [quo_ev h, I.f0 j hj, Rat.mul_comm]
end Dn

set_option Elab.async false
set_option linter.all false
set_option maxRecDepth 100000
set_option maxHeartbeats 4000000
set_option exponentiation.threshold 100000
/-! k01: differences, numbers of choices -/
namespace Dn
open PySem PySem.Spec PyProof.Rows L2
theorem lcLI {i : DI} {g : CT} {e : DE} {vs : List Nat} {env : En} {Q : Rv → En → Prop} {f : Fx Q} (items : List D) (out : List Int) (hl : out.length = items.length) (hn : out.length ≤ 1000000) (hi : ItOk i env items env) (hv : ∀ v ∈ vs, v < env.length ∧ (env.getD v .no).plain)
    (hs : ∀ k (h : k < items.length), g.run items[k] (wipeE env vs) fun e2 => e.run e2 fun r e4 => dat e4 r fun d e5 => d = .int (coef out k) ∧ wipeE e5 vs = wipeE env vs)
    (hd : Q (.fr (iL out)) (unwipe (wipeE env vs) env vs)) : LcF i g tYesD e vs env Q f := by
  refine lc_go items env hi hv (fun k o e1 => o = (iL out).take k ∧ e1 = wipeE env vs) ⟨rfl, rfl⟩ ?_ ?_
  · rintro k x o e1 hx ⟨rfl, rfl⟩
    obtain ⟨h, rfl⟩ := List.getElem?_eq_some_iff.mp hx
    have := hs k h
    refine CT.mono' (fun e2 q => ?_) this
    rw [r_tYes, if_pos rfl]
    refine e.mono _ _ _ (fun r e4 q => dat_mono (fun d e5 q => ?_) q) q
    obtain ⟨rfl, q⟩ := q
    refine ⟨?_, ?_, q⟩
    · rw [List.length_take, iL_len]; omega
    · rw [List.take_succ_eq_append_getElem (by rw [iL_len]; omega), iL_get (by omega), coef_lt (by omega)]
  · rintro o e1 ⟨rfl, rfl⟩
    rw [List.take_of_length_le (by rw [iL_len]; omega)]
    exact hd
def dfL (xs : List Int) : List Int := mkL (xs.length - 1) fun k => coef xs (k + 1) - coef xs k
def viL : List Int → Nat → Int
  | [], _ => 0
  | c :: t, n => c + (n : Int) * viL t n
theorem viL_ev : ∀ (p : List Int) (n : Nat), ((viL p n : Int) : Rat) = evR p (n : Rat)
  | [], _ => rfl
  | c :: t, n => by
    rw [viL, ev_cons, ← viL_ev t n, Rat.intCast_add, Rat.intCast_mul, Rat.intCast_natCast]
theorem viL_bound {C : Nat} : ∀ (p : List Int) (n : Nat), (∀ x ∈ p, x.natAbs ≤ C) → (viL p n).natAbs ≤ C * (n + 1) ^ p.length
  | [], n, _ => Nat.zero_le _
  | c :: t, n, h => by
    have ih := viL_bound t n fun x hx => h x (List.mem_cons_of_mem _ hx)
    have hc := h c List.mem_cons_self
    rw [viL, List.length_cons, Nat.pow_succ]
    have a : (c + (n : Int) * viL t n).natAbs ≤ c.natAbs + n * (viL t n).natAbs := by
      have := Int.natAbs_add_le c ((n : Int) * viL t n)
      rw [Int.natAbs_mul, Int.natAbs_natCast] at this
      exact this
    have b : n * (viL t n).natAbs ≤ n * (C * (n + 1) ^ t.length) := Nat.mul_le_mul_left _ ih
    have c' : C ≤ C * (n + 1) ^ t.length := Nat.le_mul_of_pos_right _ (Nat.pow_pos (by omega))
    have d : C * ((n + 1) ^ t.length * (n + 1)) = n * (C * (n + 1) ^ t.length) + C * (n + 1) ^ t.length := by grind
    omega
theorem dk_dl : ∀ (k : Nat) (s : Nat → Int) (i : Nat), dk (k + 1) s i = dk k s (i + 1) - dk k s i
  | 0, s, i => rfl
  | k + 1, s, i => dk_dl k (dl s) i
theorem dk_bound {B N : Nat} {s : Nat → Int} (h : ∀ j, j ≤ N → (s j).natAbs ≤ B) : ∀ (k i : Nat), i + k ≤ N → (dk k s i).natAbs ≤ 2 ^ k * B
  | 0, i, hi => by rw [Nat.pow_zero, Nat.one_mul]; exact h i (by omega)
  | k + 1, i, hi => by
    have a := dk_bound h k (i + 1) (by omega)
    have b := dk_bound h k i (by omega)
    rw [dk_dl, Nat.pow_succ]
    have : 2 ^ k * 2 * B = 2 ^ k * B + 2 ^ k * B := by grind
    omega
def bcF (p : List Int) : List Int := mkL p.length fun k => dk k (viL p) 0
def fac : Nat → Nat
  | 0 => 1
  | k + 1 => fac k * (k + 1)
def ffL : Nat → List Int
  | 0 => [1]
  | k + 1 => mulL (ffL k) [-(k : Int), 1]
theorem fac_pos : ∀ k, 0 < fac k
  | 0 => by decide
  | k + 1 => Nat.mul_pos (fac_pos k) (by omega)
theorem ffL_ev (n : Nat) : ∀ k, evR (ffL k) (n : Rat) = ((fac k * chs n k : Nat) : Rat)
  | 0 => by rw [chs_0]; show (1 : Rat) + (n : Rat) * 0 = 1; grind
  | k + 1 => by
    rw [ffL, ev_mul, ffL_ev n k]
    have e : evR [-(k : Int), 1] (n : Rat) = (((n : Int) - (k : Int) : Int) : Rat) := by
      show ((-(k : Int) : Int) : Rat) + (n : Rat) * (((1 : Int) : Rat) + (n : Rat) * 0) = _
      rw [Rat.intCast_sub, Rat.intCast_natCast, Rat.intCast_natCast, Rat.intCast_neg, Rat.intCast_natCast]
      have : ((1 : Int) : Rat) = 1 := rfl
      rw [this]
      grind
    have s := chs_step n k
    have c : ((fac k * chs n k : Nat) : Rat) = (((fac k : Nat) : Int) : Rat) * (((chs n k : Nat) : Int) : Rat) := by rw [Rat.natCast_mul, Rat.intCast_natCast, Rat.intCast_natCast]
    have d : ((fac (k + 1) * chs n (k + 1) : Nat) : Rat) = (((((fac k : Nat) : Int) * (((k : Int) + 1) * ((chs n (k + 1) : Nat) : Int))) : Int) : Rat) := by
      rw [← Rat.intCast_natCast]
      congr 1
      rw [fac]
      push_cast
      grind
    rw [e, c, d, ← s, ← Rat.intCast_mul, ← Rat.intCast_mul]
    congr 1
    grind
/-- the first k of a row by choices, as a polynomial -/
def fcR (row : List Int) : Nat → List Rat
  | 0 => []
  | k + 1 => rsL (fcR row k) (ratL (ffL k)) ((coef row k : Rat) / ((fac k : Nat) : Rat))
theorem ffL_len : ∀ k, (ffL k).length ≤ k + 1
  | 0 => Nat.le_refl _
  | k + 1 => by
    have := mul_len (ffL k) [-(k : Int), 1]
    have := ffL_len k
    rw [ffL]
    simp at *
    omega
theorem fcR_len (row : List Int) : ∀ k, (fcR row k).length ≤ k
  | 0 => Nat.le_refl _
  | k + 1 => by
    have := fcR_len row k
    have := ffL_len k
    rw [fcR, rsL_len]
    simp [ratL]
    omega
theorem natCast_ne {k : Nat} (h : 0 < k) : (k : Rat) ≠ 0 := by
  intro z
  have : (k : Rat) = ((0 : Nat) : Rat) := z
  have := Rat.natCast_inj.mp this
  omega
theorem fcR_ev (row : List Int) (n : Nat) : ∀ k, evQ (fcR row k) (n : Rat) = ((Sg k fun i => coef row i * ((chs n i : Nat) : Int) : Int) : Rat)
  | 0 => rfl
  | k + 1 => by
    rw [fcR, evQ_rsL, fcR_ev row n k, evQ_int, ffL_ev, Sg_s, Rat.intCast_add, Rat.intCast_mul, Rat.intCast_natCast, Rat.natCast_mul]
    have := Rat.div_mul_cancel (a := (coef row k : Rat)) (natCast_ne (fac_pos k))
    generalize (coef row k : Rat) / ((fac k : Nat) : Rat) = z at this ⊢
    rw [← this]
    grind
def sp_differences : Spec := .det (List Int) (fun x => [lsD x]) (fun x => x.length ≤ 1000) fun x => .fr (iL (dfL x))
def sp_value_at_integer : Spec := .det (List Int × Nat) (fun x => [lsD x.1, .int x.2]) (fun x => x.2 ≤ 1000) fun x => .sh (.int (viL x.1 x.2))
def sp_by_choices : Spec := .det (List Int) (fun x => [lsD x]) (fun x => x.length ≤ 1000) fun x => .fr (iL (trim (bcF x)))
def sp_choices_poly : Spec := .det Nat (fun x => [.int x]) (fun x => x ≤ 1000) fun x => .sh (.tup [lsD (ffL x), .int (fac x)])
def FcOk (row : List Int) : Prop := row.length ≤ 17 ∧ ∀ x ∈ row, Sz 90 x
def sp_from_choices : Spec := ⟨List Int, fun x => [lsD x], FcOk, fun x r => ∃ p b, r = .sh (ovD p (b : Nat)) ∧ Quo (fac 16) (fcR x x.length) p b⟩
def sp_sum_poly : Spec := ⟨List Int, fun x => [lsD x], fun x => x.length ≤ 16 ∧ FcOk (0 :: trim (bcF x)), fun x r => ∃ p b, r = .sh (ovD p (b : Nat)) ∧ Quo (fac 16) (fcR (0 :: trim (bcF x)) (0 :: trim (bcF x)).length) p b⟩
section
variable {Q : Rv → Prop} {f : Fx Q}
@[simp ↓] theorem c_differences {a : List Int} : sp_differences.Run [lsD a] Q f = (a.length ≤ 1000 ∧ Q (.fr (iL (dfL a)))) := Spec.det_run (A := List Int) (args := fun x => [lsD x]) (fun x y h => inj_l h) a
@[simp ↓] theorem c_by_choices {a : List Int} : sp_by_choices.Run [lsD a] Q f = (a.length ≤ 1000 ∧ Q (.fr (iL (trim (bcF a))))) := Spec.det_run (A := List Int) (args := fun x => [lsD x]) (fun x y h => inj_l h) a
@[simp ↓] theorem c_value_at_integer {a : List Int} {n : Nat} : sp_value_at_integer.Run [lsD a, .int n] Q f = (n ≤ 1000 ∧ Q (.sh (.int (viL a n)))) := Spec.det_run (A := List Int × Nat) (args := fun x => [lsD x.1, .int x.2]) (fun x y h => by
  obtain ⟨a, b⟩ := x
  obtain ⟨c, d⟩ := y
  simp only [List.cons.injEq, D.lst.injEq, iL_eq, D.int.injEq, and_true] at h
  rw [h.1, show b = d by omega]) (a, n)
@[simp ↓] theorem c_choices_poly {n : Nat} : sp_choices_poly.Run [.int n] Q f = (n ≤ 1000 ∧ Q (.sh (.tup [lsD (ffL n), .int (fac n)]))) := Spec.det_run (A := Nat) (args := fun x => [.int x]) (fun x y h => by
  simp only [List.cons.injEq, D.int.injEq, and_true] at h
  omega) n
theorem c_from_choices {row : List Int} (h : FcOk row) (q : ∀ p (b : Nat), Quo (fac 16) (fcR row row.length) p b → Q (.sh (ovD p b))) : sp_from_choices.Run [lsD row] Q f := Spec.go sp_from_choices row rfl h fun _ hr => by obtain ⟨p, b, rfl, h1⟩ := hr; exact q p b h1
theorem c_sum_poly {x : List Int} (h : x.length ≤ 16 ∧ FcOk (0 :: trim (bcF x))) (q : ∀ p (b : Nat), Quo (fac 16) (fcR (0 :: trim (bcF x)) (0 :: trim (bcF x)).length) p b → Q (.sh (ovD p b))) : sp_sum_poly.Run [lsD x] Q f := Spec.go sp_sum_poly x rfl h fun _ hr => by obtain ⟨p, b, rfl, h1⟩ := hr; exact q p b h1
end
def d_differences : DS :=
  (sRet (eLc (iRange2 (aCons (eC (.int 1)) (aCons (eOp1 lenR (eVar 0)) aNil))) (CT.one 1) tYesD (eOp subR (eOp ixR (eVar 0) (eVar 1)) (eOp ixR (eVar 0) (eOp subR (eVar 1) (eC (.int 1))))) [1]))

def d_value_at_integer : DS :=
  (sSeq (sSet 2 (eC (.int 0)))
  (sSeq (sFor (iListArg List.reverse (aCons (eVar 0) aNil)) (gN 3) (sSet 2 (eOp addR (eOp mulR (eVar 2) (eVar 1)) (eVar 3))))
  (sRet (eVar 2))))

def d_by_choices : DS :=
  (sSeq (sSet 1 (eLc (iRange1 (aCons (eOp1 lenR (eVar 0)) aNil)) (CT.one 3) tYesD (eCall sp_value_at_integer (aCons (eVar 0) (aCons (eVar 3) aNil))) [3]))
  (sSeq (sOwn 2 (eLst aNil))
  (sSeq (sWhile (tB (eOp neR (eVar 1) (eLst aNil))) (sSeq (sExpr (eApp 2 (eOp ixR (eVar 1) (eC (.int 0)))))
  (sSet 1 (eCall sp_differences (aCons (eVar 1) aNil)))))
  (sRet (eCall sp_trimmed (aCons (eVar 2) aNil))))))

def d_choices_poly : DS :=
  (sSeq (sSet 1 (eLst (aCons (eC (.int 1)) aNil)))
  (sSeq (sSet 2 (eC (.int 1)))
  (sSeq (sFor (iRange1 (aCons (eVar 0) aNil)) (gN 3) (sSeq (sSet 1 (eCall sp_ptimes (aCons (eVar 1) (aCons (eLst (aCons (eOp1 negR (eVar 3)) (aCons (eC (.int 1)) aNil))) aNil))))
  (sSet 2 (eOp mulR (eVar 2) (eOp addR (eVar 3) (eC (.int 1)))))))
  (sRet (eTup (aCons (eVar 1) (aCons (eVar 2) aNil)))))))

def d_from_choices : DS :=
  (sSeq (sSet 1 (eLst aNil))
  (sSeq (sFor (iListArg enumD (aCons (eVar 0) aNil)) (gTupD 2 (gConsD (gN 2) (gConsD (gN 3) gNilD))) (sSeq (sAsg (eCall sp_choices_poly (aCons (eVar 2) aNil)) (gTupD 2 (gConsD (gN 4) (gConsD (gN 5) gNilD))))
  (sSet 1 (eCall sp_row_sum (aCons (eVar 1) (aCons (eLc (iSeq (eVar 4)) (CT.one 6) tYesD (eTup (aCons (eVar 6) (aCons (eC (.int 1)) aNil))) [6]) (aCons (eCall sp_over (aCons (eTup (aCons (eVar 3) (aCons (eC (.int 1)) aNil))) (aCons (eTup (aCons (eVar 5) (aCons (eC (.int 1)) aNil))) aNil))) aNil)))))))
  (sRet (eCall sp_as_quotient (aCons (eVar 1) aNil)))))

def d_sum_poly : DS :=
  (sRet (eCall sp_from_choices (aCons (eOp addR (eLst (aCons (eC (.int 0)) aNil)) (eCall sp_by_choices (aCons (eVar 0) aNil))) aNil)))

theorem mkL_len' {n : Nat} {f : Nat → Int} : (mkL n f).length = n := by simp [mkL]
theorem rangeD_at {lo : Int} {n j : Nat} (h : j < (rangeD lo n).length) : (rangeD lo n)[j] = .int (lo + (j : Int)) := by
  have := rangeD_get (lo := lo) (n := n) (k := j)
  rw [rangeD_len] at h
  rw [if_pos h, List.getElem?_eq_getElem (by rwa [rangeD_len])] at this
  simpa using this
theorem k_differences : sp_differences.Ok 2 d_differences := by
  intro (xs : List Int) (h : xs.length ≤ 1000)
  simp [entry, sp_differences, Spec.det]
  simp -dsimp [d_differences]
  have it := it_range2 (e := [.sh (lsD xs), .no]) (m := 1) (n := (xs.length : Int)) ⟨by decide, by decide⟩ (sm_n (by omega)) (r := (aCons (eC (.int 1)) (aCons (eOp1 lenR (eVar 0)) aNil))) (fun QA => by simp)
  rw [show ((xs.length : Int) - 1).toNat = xs.length - 1 by omega] at it
  refine lcLI (rangeD 1 (xs.length - 1)) (dfL xs) (by rw [rangeD_len]; unfold dfL; rw [mkL_len']) (by unfold dfL; rw [mkL_len']; omega) it (by simp) (fun j hj => ?_) ?_
  · have e0 := rangeD_at hj
    have hj : j < xs.length - 1 := by rwa [rangeD_len] at hj
    have a1 : atI (iL xs) ((1 : Int) + (j : Int)) = some (.int (coef xs (j + 1))) := by
      rw [show (1 : Int) + (j : Int) = ((j + 1 : Nat) : Int) by omega]
      exact atI_n' (by omega)
    have a2 : atI (iL xs) ((1 : Int) + (j : Int) - 1) = some (.int (coef xs j)) := by
      rw [show (1 : Int) + (j : Int) - 1 = (j : Int) by omega]
      exact atI_n' (by omega)
    rw [e0]
    unfold dfL
    rw [coef_mkL, if_pos hj]
    simp -dsimp [a1, a2]
  · simp -dsimp
theorem k_value_at_integer : sp_value_at_integer.Ok 4 d_value_at_integer := by
  rintro ⟨p, n⟩ h
  have h : n ≤ 1000 := h
  simp [entry, sp_value_at_integer, Spec.det]
  simp -dsimp [d_value_at_integer]
  refine forL (ns := p.reverse) (fun Q => by simp) (fun m e => ∃ s3, e = [.sh (lsD p), .sh (.int n), .sh (.int (viL (p.drop (p.length - m)) n)), s3]) ⟨_, by rw [Nat.sub_zero, List.drop_length]; rfl⟩ ?_ ?_
  · rintro m hm e ⟨s3, rfl⟩
    have hm : m < p.length := by simpa using hm
    have m1 : IntMulOk (viL (p.drop (p.length - m)) n) (n : Int) := mulOkR (by omega)
    simp -dsimp [m1]
    have ev : viL (p.drop (p.length - m)) n * (n : Int) + coef p.reverse m = viL (p.drop (p.length - (m + 1))) n := by
      rw [drop_rev hm, viL, Int.mul_comm, Int.add_comm]
    rw [ev]
    exact hold ⟨_, rfl⟩
  · rintro e ⟨s3, rfl⟩
    simp -dsimp
theorem df_dk {n k : Nat} {s : Nat → Int} : dfL (mkL n fun i => dk k s i) = mkL (n - 1) fun i => dk (k + 1) s i := by
  unfold dfL
  rw [mkL_len']
  unfold mkL
  refine List.map_congr_left fun i hi => ?_
  have hi := List.mem_range.mp hi
  show coef (mkL n _) (i + 1) - coef (mkL n _) i = _
  rw [coef_mkL, coef_mkL, if_pos (by omega), if_pos (by omega), dk_dl]
theorem k_by_choices : sp_by_choices.Ok 4 d_by_choices := by
  intro (p : List Int) (h : p.length ≤ 1000)
  simp [entry, sp_by_choices, Spec.det]
  unfold d_by_choices
  refine cut (fun e => ∃ s3, e = [.sh (lsD p), .sh (lsD (mkL p.length fun i => dk 0 (viL p) i)), .no, s3]) ?_ ?_
  · have sm : Sm (p.length : Int) := sm_n (by omega)
    simp -dsimp
    refine lcL (rangeD 0 p.length) (mkL p.length fun i => dk 0 (viL p) i) (by rw [rangeD_len, mkL_len']) (by rw [mkL_len']; omega) (fun Q => by simp [sm]) (by simp) (fun j hj => ?_) ?_
    · have e0 := rangeD_at hj
      have hj : j < p.length := by rwa [rangeD_len] at hj
      rw [Int.zero_add] at e0
      rw [e0, coef_mkL, if_pos hj]
      simp -dsimp
      exact ⟨by omega, rfl⟩
    · simp -dsimp
      exact hold ⟨_, rfl⟩
  rintro e ⟨s3, rfl⟩
  refine cut (fun e => e = [.sh (lsD p), .sh (lsD (mkL p.length fun i => dk 0 (viL p) i)), .ow (iL []), s3]) ?_ ?_
  · simp -dsimp
    exact hold rfl
  rintro e rfl
  refine cut (fun e => ∃ s1, e = [.sh (lsD p), s1, .ow (iL (bcF p)), s3]) ?_ ?_
  · simp -dsimp
    refine whileI (fun e => ∃ k, e = [.sh (lsD p), .sh (lsD (mkL (p.length - k) fun i => dk k (viL p) i)), .ow (iL (mkL k fun i => dk i (viL p) 0)), s3] ∧ k ≤ p.length) (fun (e : En) => match e[1]? with | some (Sl.sh (.lst xs)) => xs.length | _ => 0) ⟨0, rfl, Nat.zero_le _⟩ ?_
    rintro e ⟨k, rfl, hk⟩
    by_cases g : p.length - k = 0
    · have e1 : (mkL (p.length - k) fun i => dk k (viL p) i) = [] := by rw [g]; rfl
      rw [e1]
      simp -dsimp
      have : k = p.length := by omega
      subst this
      exact hold ⟨_, rfl⟩
    · have ne : (mkL (p.length - k) fun i => dk k (viL p) i) ≠ [] := fun z => by
        have := congrArg List.length z
        rw [mkL_len'] at this
        exact g this
      have l1 : (mkL (p.length - k) fun i => dk k (viL p) i).length ≤ 1000 := by rw [mkL_len']; omega
      have a0 : (mkL (p.length - k) fun i => dk k (viL p) i)[0]? = some (dk k (viL p) 0) := by
        rw [List.getElem?_eq_getElem (by rw [mkL_len']; omega), ← coef_lt, coef_mkL, if_pos (by omega)]
      have ap : iL (mkL k fun i => dk i (viL p) 0) ++ [.int (dk k (viL p) 0)] = iL (mkL (k + 1) fun i => dk i (viL p) 0) := by
        unfold mkL
        rw [List.range_succ, List.map_append, ← iL_app]
        rfl
      simp -dsimp [ne, l1, a0, ap, df_dk]
      refine ⟨by omega, by omega, hold ⟨⟨k + 1, ?_, by omega⟩, ?_⟩⟩
      · rw [show p.length - (k + 1) = p.length - k - 1 by omega]
      · simp [mkL_len']
        omega
  rintro e ⟨s1, rfl⟩
  simp -dsimp
theorem k_choices_poly : sp_choices_poly.Ok 4 d_choices_poly := by
  intro (n : Nat) (h : n ≤ 1000)
  have sn : Sm (n : Int) := sm_n (by omega)
  simp [entry, sp_choices_poly, Spec.det]
  unfold d_choices_poly
  refine cut (fun e => e = [.sh (.int n), .sh (lsD (ffL 0)), .no, .no]) ?_ ?_
  · simp -dsimp
    exact hold rfl
  rintro e rfl
  simp -dsimp
  refine forR (n := n) (by omega) (fun Q => by simp [sn]) (fun k e => ∃ s3, e = [.sh (.int n), .sh (lsD (ffL k)), .sh (.int (fac k)), s3]) ⟨_, rfl⟩ ?_ ?_
  · rintro k hk e ⟨s3, rfl⟩
    have l1 : Lim (ffL k) [-(k : Int), 1] := by
      have := ffL_len k
      show (ffL k).length + 2 ≤ 1000000
      omega
    have m1 : MulOk (ffL k) [-(k : Int), 1] := fun x _ y hy => mulOkR (by
      rcases List.mem_cons.mp hy with rfl | hy
      · omega
      · rw [List.mem_singleton.mp hy]; decide)
    have m2 : IntMulOk (fac k : Int) ((k : Int) + 1) := mulOkR (by omega)
    have e1 : D.lst [.int (-(k : Int)), .int 1] = lsD [-(k : Int), 1] := rfl
    simp -dsimp [e1, l1, m1, m2]
    exact hold ⟨_, rfl⟩
  · rintro e ⟨s3, rfl⟩
    simp -dsimp
theorem ff_small : ∀ k, k < 17 → ∀ x ∈ ffL k, x.natAbs < 2 ^ 50 := by decide +kernel
theorem fac_dvd : ∀ k, k < 17 → fac k ∣ fac 16 ∧ fac 16 < 2 ^ 45 := by decide +kernel
/-- a term of the sum -/
theorem fb_ff {c : Int} {k i : Nat} (hk : k < 17) (hc : Sz 90 c) : Fb (fac 16) (2 ^ 185) (qc (ratL (ffL k)) i * ((c : Rat) / ((fac k : Nat) : Rat))) := by
  obtain ⟨⟨y, hy⟩, l⟩ := fac_dvd k hk
  refine ⟨fac_pos 16, coef (ffL k) i * c * (y : Int), ?_, ?_⟩
  · have a : (coef (ffL k) i).natAbs < 2 ^ 50 := coef_all (P := fun x => x.natAbs < 2 ^ 50) (by decide) (ff_small k hk) i
    have hc : c.natAbs < 2 ^ 90 := hc
    have yl : y ≤ fac 16 := by rw [hy]; exact Nat.le_mul_of_pos_left _ (fac_pos k)
    rw [Int.natAbs_mul, Int.natAbs_mul, Int.natAbs_natCast]
    have := Nat.mul_le_mul (Nat.mul_le_mul (Nat.le_of_lt a) (Nat.le_of_lt hc)) (Nat.le_trans yl (Nat.le_of_lt l))
    rw [← Nat.pow_add, ← Nat.pow_add] at this
    exact this
  · have e1 : qc (ratL (ffL k)) i = (coef (ffL k) i : Rat) := qc_int
    have e2 : ((fac 16 : Nat) : Rat) = ((fac k : Nat) : Rat) * (y : Rat) := by rw [← Rat.natCast_mul, ← hy]
    have d := Rat.div_mul_cancel (a := (c : Rat)) (natCast_ne (fac_pos k))
    rw [e1, e2, Rat.intCast_mul, Rat.intCast_mul, Rat.intCast_natCast]
    generalize (c : Rat) / ((fac k : Nat) : Rat) = z at d ⊢
    rw [← d]
    grind
theorem fb_fc {row : List Int} (h : FcOk row) : ∀ k, k ≤ row.length → ∀ i, Fb (fac 16) (k * 2 ^ 185) (qc (fcR row k) i)
  | 0, _, i => by
    show Fb _ _ (qc [] i)
    rw [qc_nil]
    exact fb_zero (fac_pos 16)
  | k + 1, hk, i => by
    have := h.1
    rw [fcR, qc_rsL, Nat.add_mul, Nat.one_mul]
    exact fb_add (fb_fc h k (by omega) i) (fb_ff (by omega) (coef_all (P := Sz 90) (Nat.two_pow_pos _) h.2 k))
theorem fc_rsz {row : List Int} (h : FcOk row) {k : Nat} (hk : k ≤ row.length) : ∀ q ∈ fcR row k, RSz 200 q := mem_qc fun i => by
  have := h.1
  refine fb_rsz (fb_fc h k hk i) (Nat.lt_of_lt_of_le (fac_dvd 0 (by decide)).2 (Nat.pow_le_pow_right (by decide) (by decide))) ?_
  have : k * 2 ^ 185 ≤ 17 * 2 ^ 185 := Nat.mul_le_mul_right _ (by omega)
  exact Nat.lt_of_le_of_lt this (by decide)
theorem fc_den {row : List Int} (h : FcOk row) {k : Nat} (hk : k ≤ row.length) : ∀ q ∈ fcR row k, q.den ∣ fac 16 := mem_qc fun i => by
  obtain ⟨z, _, e⟩ := fb_eq (fb_fc h k hk i)
  rw [e]
  rw [Rat.divInt_ofNat, Rat.den_mkRat, if_neg (by have := fac_pos 16; omega)]
  exact Nat.div_dvd_of_dvd (Nat.gcd_dvd_left _ _)
theorem k_from_choices : sp_from_choices.Ok 7 d_from_choices := by
  intro (row : List Int) (h : FcOk row)
  obtain ⟨hl, hz⟩ := id h
  simp [entry, sp_from_choices]
  unfold d_from_choices
  refine cut (fun e => e = [.sh (lsD row), .sh (.lst (fL (fcR row 0))), .no, .no, .no, .no, .no]) ?_ ?_
  · simp -dsimp
    exact hold rfl
  rintro e rfl
  refine cut (fun e => ∃ s2 s3 s4 s5 s6, e = [.sh (lsD row), .sh (.lst (fL (fcR row row.length))), s2, s3, s4, s5, s6]) ?_ ?_
  · simp -dsimp
    refine forE (ns := row) (fun Q => by simp) (fun k e => ∃ s2 s3 s4 s5 s6, e = [.sh (lsD row), .sh (.lst (fL (fcR row k))), s2, s3, s4, s5, s6] ∧ s6.plain) ⟨_, _, _, _, _, rfl, trivial⟩ ?_ ?_
    · rintro k hk e ⟨s2, s3, s4, s5, s6, rfl, p6⟩
      refine cut (fun e => e = [.sh (lsD row), .sh (.lst (fL (fcR row k))), .sh (.int k), .sh (.int (coef row k)), .sh (lsD (ffL k)), .sh (.int (fac k)), s6]) ?_ ?_
      · simp -dsimp
        exact ⟨by omega, hold rfl⟩
      rintro e rfl
      have lf := ffL_len k
      have cz : Sz 90 (coef row k) := coef_all (P := Sz 90) (Nat.two_pow_pos _) hz k
      have r1 : RSz 4000 ((coef row k : Int) : Rat) := RSz.int (cz.up (by decide)) (by decide)
      have fl : fac k < 2 ^ 45 := by
        obtain ⟨a, b⟩ := fac_dvd k (by omega)
        exact Nat.lt_of_le_of_lt (Nat.le_of_dvd (fac_pos 16) a) b
      have fz : Sz 45 (((fac k : Nat) : Int)) := fl
      have fq : (((fac k : Nat) : Int) : Rat) = ((fac k : Nat) : Rat) := Rat.intCast_natCast _
      have r2 : RSz 4000 (((fac k : Nat) : Rat)) := by rw [← fq]; exact RSz.int (fz.up (by decide)) (by decide)
      have n2 : ((fac k : Nat) : Rat) ≠ 0 := natCast_ne (fac_pos k)
      have rq : RSz 135 ((coef row k : Rat) / ((fac k : Nat) : Rat)) := by
        have := RSz.div (RSz.int cz (by decide)) (RSz.int fz (by decide)) (by rw [fq]; exact n2)
        rwa [fq] at this
      have lr := fcR_len row k
      simp -dsimp
      refine lc_map (iL (ffL k)) (fL (ratL (ffL k))) (by simp [ratL]) (by simp [ratL]; omega) (fun Q => by simp) (by simpa using p6) (fun j hj => ?_) ?_
      · have hj : j < (ffL k).length := by simpa using hj
        rw [iL_get hj, fL_get (by simpa [ratL] using hj)]
        simp -dsimp [frD_int, ratL]
      · simp -dsimp [frD_int, r1, r2, n2, fq]
        refine c_row_sum (n := 51) (m := 135) ⟨fun q hq => (fc_rsz h (by omega) q hq).up (by decide), ?_, rq, by decide, by omega, by simp [ratL]; omega⟩ ?_
        · intro q hq
          obtain ⟨x, hx, rfl⟩ := List.mem_map.mp hq
          exact RSz.int (n := 51) (Nat.lt_of_lt_of_le (ff_small k (by omega) x hx) (by decide)) (by decide)
        · simp -dsimp
          refine hold ⟨_, _, _, _, _, rfl, ?_⟩
          first | exact p6 | trivial | simp
    · rintro e ⟨s2, s3, s4, s5, s6, rfl, p6⟩
      exact ⟨_, _, _, _, _, rfl⟩
  rintro e ⟨s2, s3, s4, s5, s6, rfl⟩
  have lr := fcR_len row row.length
  simp -dsimp
  refine c_as_quotient (D := fac 16) (t := 200) ⟨⟨fac_pos 16, Nat.lt_of_lt_of_le (fac_dvd 0 (by decide)).2 (Nat.pow_le_pow_right (by decide) (by decide)), fc_den h (Nat.le_refl _)⟩, fun q hq => (fc_rsz h (Nat.le_refl _) q hq).num, by decide, by omega⟩ fun p b q => ?_
  simp -dsimp
  exact ⟨p, b, ⟨rfl, rfl⟩, q⟩
theorem k_sum_poly : sp_sum_poly.Ok 1 d_sum_poly := by
  intro (p : List Int) h
  have h : p.length ≤ 16 ∧ FcOk (0 :: trim (bcF p)) := h
  obtain ⟨h1, h2⟩ := h
  have l1 : p.length ≤ 1000 := by omega
  have e1 : D.int 0 :: iL (trim (bcF p)) = iL (0 :: trim (bcF p)) := rfl
  have l2 : (0 :: trim (bcF p)).length ≤ 17 := h2.1
  rw [List.length_cons] at l2
  simp [entry, sp_sum_poly]
  simp -dsimp [d_sum_poly, l1, e1]
  refine ⟨by omega, c_from_choices h2 fun q b z => ?_⟩
  simp -dsimp
  exact ⟨q, b, ⟨rfl, rfl⟩, z⟩
end Dn

set_option Elab.async false
set_option linter.all false
set_option maxRecDepth 100000
set_option maxHeartbeats 4000000
set_option exponentiation.threshold 100000
/-! k01: plain facts for the law -/
namespace Dn
open PySem PySem.Spec PyProof.Rows L2
theorem nat_inj_q : ∀ i j : Nat, i ≠ j → ((i : Nat) : Rat) ≠ ((j : Nat) : Rat) := fun i j h z => h (Rat.natCast_inj.mp z)
theorem bc_coef {p : List Int} {k : Nat} : coef (bcF p) k = if k < p.length then dk k (viL p) 0 else 0 := by
  unfold bcF
  rw [coef_mkL]
theorem fc_congr {a b : List Int} (h : ∀ k, coef a k = coef b k) : ∀ k, fcR a k = fcR b k
  | 0 => rfl
  | k + 1 => by rw [fcR, fcR, fc_congr h k, h]
theorem ratL_len {p : List Int} : (ratL p).length = p.length := by simp [ratL]
theorem fc_bc {p : List Int} {K : Nat} (hK : K ≤ p.length) (h0 : ∀ k, K ≤ k → coef (bcF p) k = 0) (k : Nat) : qc (fcR (bcF p) K) k = (coef p k : Rat) := by
  have lr := fcR_len (bcF p) K
  have := row_eq (n := p.length) (s := fcR (bcF p) K) (t := ratL p) (p := fun i => ((i : Nat) : Rat)) (by omega) (by rw [ratL_len]; omega) (fun i j _ _ h => nat_inj_q i j h) (fun i hi => by
    rw [fcR_ev, evQ_int, ← viL_ev]
    congr 1
    rw [newton' (viL p) hi, Sg_more hK fun k hk _ => ?_]
    · refine Sg_congr fun k hk => ?_
      rw [bc_coef, if_pos (by omega), Int.mul_comm]
    · have := h0 k hk
      rw [bc_coef] at this
      split at this
      · rw [this, Int.mul_zero]
      · omega) k
  rw [this]
  exact qc_int
theorem bc_len {p : List Int} (h : Tr p) : (trim (bcF p)).length = p.length := by
  have l1 := trim_len (bcF p)
  have l2 : (bcF p).length = p.length := by unfold bcF; rw [mkL_len']
  by_cases e : p.length = 0
  · omega
  · obtain ⟨m, hm⟩ : ∃ m, p.length = m + 1 := ⟨p.length - 1, by omega⟩
    have ne : coef (trim (bcF p)) m ≠ 0 := fun z => by
      rw [coef_trim] at z
      have := fc_bc (p := p) (K := m) (by omega) (fun k hk => by
        by_cases g : k = m
        · rw [g]; exact z
        · exact coef_ge (by omega)) m
      rw [qc_ge (fcR_len _ _)] at this
      exact tr_len h hm (Rat.intCast_inj.mp this.symm)
    have := len_ge ne
    omega
theorem bc_qc {p : List Int} (h : Tr p) (k : Nat) : qc (fcR (trim (bcF p)) (trim (bcF p)).length) k = (coef p k : Rat) := by
  rw [bc_len h, fc_congr (b := bcF p) fun k => coef_trim]
  exact fc_bc (Nat.le_refl _) (fun k hk => by rw [bc_coef, if_neg (by omega)]) k
theorem bc_val {p : List Int} (h : Tr p) (n : Nat) : viL p n = Sg p.length fun i => coef (trim (bcF p)) i * ((chs n i : Nat) : Int) := by
  have e := fcR_ev (trim (bcF p)) n p.length
  have l := bc_len h
  have : evQ (fcR (trim (bcF p)) p.length) (n : Rat) = evQ (ratL p) (n : Rat) := evQ_ext _ _ _ fun k => by
    have := bc_qc h k
    rw [l] at this
    rw [this]
    exact qc_int.symm
  rw [this, evQ_int, ← viL_ev] at e
  exact Rat.intCast_inj.mp e
theorem quo_int {D b : Nat} {xs : List Rat} {p q : List Int} (h : Quo D xs p b) (tq : Tr q) (e : ∀ k, qc xs k = (coef q k : Rat)) : p = q ∧ b = 1 := by
  have c : ∀ k, coef p k = (b : Int) * coef q k := fun k => by
    have := h.co k
    rw [e] at this
    have bq : (((b : Nat) : Int) : Rat) = (b : Rat) := Rat.intCast_natCast _
    have : ((coef p k : Int) : Rat) = (((b : Int) * coef q k : Int) : Rat) := by
      rw [this, Rat.intCast_mul, bq, Rat.mul_comm]
    exact Rat.intCast_inj.mp this
  have pe : p = q.map fun x => (b : Int) * x := by
    have t : Tr (q.map fun x => (b : Int) * x) := by
      by_cases q0 : q.length = 0
      · exact .inl (by rw [List.eq_nil_of_length_eq_zero q0]; rfl)
      · obtain ⟨m, hm⟩ : ∃ m, q.length = m + 1 := ⟨q.length - 1, by omega⟩
        refine tr_of_last (m := m) (by simpa using hm) ?_
        rw [coef_map (f := fun x => (b : Int) * x) (Int.mul_zero _)]
        exact Int.mul_ne_zero (by have := h.pos; omega) (tr_len tq hm)
    rw [← tr_trim h.tr, ← tr_trim t]
    refine trim_ext fun k => ?_
    rw [c, coef_map (f := fun x => (b : Int) * x) (Int.mul_zero _)]
  have b1 : b = 1 := by
    have o : Nat.gcd (contL p) b = 1 := h.one
    rw [pe, cont_scale] at o
    rw [Nat.gcd_eq_right (Nat.dvd_mul_right b _)] at o
    exact o
  subst b1
  refine ⟨?_, rfl⟩
  rw [pe]
  have : (fun x : Int => ((1 : Nat) : Int) * x) = id := by
    funext x
    show (1 : Int) * x = x
    omega
  rw [this, List.map_id]
/-- the sums of the values -/
theorem sum_val {p : List Int} (h : Tr p) : ∀ n, (Sg (p.length + 1) fun i => coef (0 :: trim (bcF p)) i * ((chs n i : Nat) : Int)) = Sg n fun m => viL p m := by
  intro n
  rw [Sg_shift]
  have e0 : coef (0 :: trim (bcF p)) 0 = 0 := rfl
  have e1 : ∀ i, coef (0 :: trim (bcF p)) (i + 1) = coef (trim (bcF p)) i := fun i => by simp [coef]
  rw [e0, Int.zero_mul, Int.zero_add]
  induction n with
  | zero => exact Sg_zero fun k _ => by simp [chs]
  | succ n ih =>
    rw [Sg_s, ← ih, bc_val h n, ← Sg_add]
    refine Sg_congr fun i _ => ?_
    rw [e1, chs]
    push_cast
    grind
theorem bc_sz {p : List Int} (hl : p.length ≤ 16) (hp : ∀ x ∈ p, x.natAbs ≤ 12) : ∀ x ∈ trim (bcF p), Sz 90 x := mem_all fun k => by
  rw [coef_trim, bc_coef]
  split
  · rename_i hk
    have b := dk_bound (s := viL p) (N := 15) (B := 12 * 16 ^ 16) (fun j hj => by
      refine Nat.le_trans (viL_bound p j hp) (Nat.mul_le_mul_left _ ?_)
      exact Nat.le_trans (Nat.pow_le_pow_left (show j + 1 ≤ 16 by omega) _) (Nat.pow_le_pow_right (by decide) hl)) k 0 (by omega)
    have c : 2 ^ k * (12 * 16 ^ 16) ≤ 2 ^ 15 * (12 * 16 ^ 16) := Nat.mul_le_mul_right _ (Nat.pow_le_pow_right (by decide) (by omega))
    exact Nat.lt_of_le_of_lt (Nat.le_trans b c) (by decide)
  · exact Nat.two_pow_pos _
end Dn

set_option Elab.async false
set_option linter.all false
set_option maxRecDepth 100000
set_option maxHeartbeats 4000000
set_option exponentiation.threshold 100000
/-! k01: the law -/
namespace Dn
open PySem PySem.Spec PyProof.Rows L2
def sp_law : Spec := lawSpec
def d_law : DS :=
  (sSeq (sOwn 1 (eCall sp__law_big (aCons (eVar 0) (aCons (eC (.int 0)) (aCons (eC (.int 60)) aNil)))))
  (sSeq (sOwn 2 (eLst aNil))
  (sSeq (sFor (iRange1 (aCons (eCallS sp__law_take 1 (aCons (eC (.int 7)) aNil)) aNil)) (gN 3) (sSeq (sSet 4 (eCall sp__law_ratio (aCons (eOp subR (eCallS sp__law_take 1 (aCons (eC (.int 21)) aNil)) (eC (.int 10))) (aCons (eOp addR (eC (.int 1)) (eCallS sp__law_take 1 (aCons (eC (.int 4)) aNil))) aNil))))
  (sSeq (sSet 5 (eCall sp__law_ratio (aCons (eOp subR (eCallS sp__law_take 1 (aCons (eC (.int 41)) aNil)) (eC (.int 20))) (aCons (eOp addR (eC (.int 1)) (eCallS sp__law_take 1 (aCons (eC (.int 5)) aNil))) aNil))))
  (sIf (tB (eOp ninDR (eVar 4) (eLcO 2 (CT.two 18 19) tYesD (eVar 18) [18, 19]))) (sExpr (eApp 2 (eTup (aCons (eVar 4) (aCons (eVar 5) aNil))))) sNext))))
  (sSeq (sSet 6 (eOp1 listR (eVar 2)))
  (sSeq (sSet 7 (eCall sp_through (aCons (eVar 6) aNil)))
  (sSeq (sIf (tOr (tNot (tTru (eCall sp__law_is_over (aCons (eVar 7) aNil)))) (tOr (tB (eOp gtR (eOp1 lenR (eOp ixR (eVar 7) (eC (.int 0)))) (eOp1 lenR (eVar 2)))) (tB (eOp neR (eVar 6) (eVar 2))))) (sRet (eC (.bl false))) sNext)
  (sSeq (sIf (tB (eOp neR (eLc (iSeq (eVar 2)) (CT.two 18 19) (tB (eOp neR (eCall sp__law_over_value (aCons (eVar 7) (aCons (eVar 18) aNil))) (eVar 19))) (eVar 18) [18, 19]) (eLst aNil))) (sRet (eC (.bl false))) sNext)
  (sSeq (sSet 8 (eOp addR (eLc (iRange1 (aCons (eCallS sp__law_take 1 (aCons (eC (.int 6)) aNil)) aNil)) (CT.one 10) tYesD (eCall sp__law_ratio (aCons (eOp subR (eCallS sp__law_take 1 (aCons (eC (.int 41)) aNil)) (eC (.int 20))) (aCons (eOp addR (eC (.int 1)) (eCallS sp__law_take 1 (aCons (eC (.int 9)) aNil))) aNil))) [10]) (eOp mulR (eLst (aCons (eTup (aCons (eC (.int 0)) (aCons (eC (.int 1)) aNil))) aNil)) (eCallS sp__law_take 1 (aCons (eC (.int 2)) aNil)))))
  (sSeq (sSet 9 (eCall sp_as_quotient (aCons (eOp1 listR (eVar 8)) aNil)))
  (sSeq (sIf (tOr (tNot (tTru (eCall sp__law_is_over (aCons (eVar 9) aNil)))) (tB (eOp gtR (eOp1 lenR (eOp ixR (eVar 9) (eC (.int 0)))) (eOp1 lenR (eVar 8))))) (sRet (eC (.bl false))) sNext)
  (sSeq (sFor (iRange1 (aCons (eOp1 lenR (eVar 8)) aNil)) (gN 10) (sIf (tB (eOp neR (eCall sp__law_ratio (aCons (eIf (tB (eOp ltR (eVar 10) (eOp1 lenR (eOp ixR (eVar 9) (eC (.int 0)))))) (eOp ixR (eOp ixR (eVar 9) (eC (.int 0))) (eVar 10)) (eC (.int 0))) (aCons (eOp ixR (eVar 9) (eC (.int 1))) aNil))) (eOp ixR (eVar 8) (eVar 10)))) (sRet (eC (.bl false))) sNext))
  (sSeq (sSet 11 (eCallS sp__law_poly 1 (aCons (eIf (tB (eOp eqR (eCallS sp__law_take 1 (aCons (eC (.int 8)) aNil)) (eC (.int 3)))) (eC (.int 15)) (eC (.int 6))) (aCons (eC (.int 12)) aNil))))
  (sSeq (sSet 12 (eCall sp_by_choices (aCons (eOp1 listR (eVar 11)) aNil)))
  (sSeq (sIf (tOr (tNot (tTru (eCall sp__law_is_poly (aCons (eVar 12) aNil)))) (tB (eOp neR (eOp1 lenR (eVar 12)) (eOp1 lenR (eVar 11))))) (sRet (eC (.bl false))) sNext)
  (sSeq (sSet 13 (eLc (iRange1 (aCons (eOp addR (eOp1 lenR (eVar 11)) (eC (.int 6))) aNil)) (CT.one 14) tYesD (eOp ixR (eCall sp__law_value5 (aCons (eVar 11) (aCons (eTup (aCons (eVar 14) (aCons (eC (.int 1)) aNil))) aNil))) (eC (.int 0))) [14]))
  (sSeq (sFor (iRange1 (aCons (eOp1 lenR (eVar 13)) aNil)) (gN 14) (sIf (tB (eOp neR (eOp ixR (eVar 13) (eVar 14)) (eOp1 sumR (eLc (iRange1 (aCons (eOp1 lenR (eVar 12)) aNil)) (CT.one 10) tYesD (eOp mulR (eOp ixR (eVar 12) (eVar 10)) (eCall sp__law_choices (aCons (eVar 14) (aCons (eVar 10) aNil)))) [10])))) (sRet (eC (.bl false))) sNext))
  (sSeq (sIf (tOr (tB (eOp neR (eCall sp_from_choices (aCons (eOp1 listR (eVar 12)) aNil)) (eTup (aCons (eVar 11) (aCons (eC (.int 1)) aNil))))) (tB (eOp neR (eCall sp_differences (aCons (eOp1 listR (eVar 13)) aNil)) (eLc (iRange2 (aCons (eC (.int 1)) (aCons (eOp1 lenR (eVar 13)) aNil))) (CT.one 10) tYesD (eOp subR (eOp ixR (eVar 13) (eVar 10)) (eOp ixR (eVar 13) (eOp subR (eVar 10) (eC (.int 1))))) [10])))) (sRet (eC (.bl false))) sNext)
  (sSeq (sSet 15 (eLc (iRange1 (aCons (eCallS sp__law_take 1 (aCons (eC (.int 6)) aNil)) aNil)) (CT.one 10) tYesD (eOp subR (eCallS sp__law_take 1 (aCons (eC (.int 21)) aNil)) (eC (.int 10))) [10]))
  (sSeq (sSet 16 (eCall sp_from_choices (aCons (eOp1 listR (eVar 15)) aNil)))
  (sSeq (sIf (tOr (tNot (tTru (eCall sp__law_is_over (aCons (eVar 16) aNil)))) (tB (eOp gtR (eOp1 lenR (eOp ixR (eVar 16) (eC (.int 0)))) (eOp max2R (eC (.int 1)) (eOp1 lenR (eVar 15)))))) (sRet (eC (.bl false))) sNext)
  (sSeq (sFor (iRange1 (aCons (eOp addR (eOp1 lenR (eVar 15)) (eC (.int 4))) aNil)) (gN 14) (sIf (tB (eOp neR (eCall sp__law_over_value (aCons (eVar 16) (aCons (eTup (aCons (eVar 14) (aCons (eC (.int 1)) aNil))) aNil))) (eTup (aCons (eOp1 sumR (eLc (iRange1 (aCons (eOp1 lenR (eVar 15)) aNil)) (CT.one 10) tYesD (eOp mulR (eOp ixR (eVar 15) (eVar 10)) (eCall sp__law_choices (aCons (eVar 14) (aCons (eVar 10) aNil)))) [10])) (aCons (eC (.int 1)) aNil))))) (sRet (eC (.bl false))) sNext))
  (sSeq (sSet 17 (eCall sp_sum_poly (aCons (eOp1 listR (eVar 11)) aNil)))
  (sSeq (sIf (tOr (tNot (tTru (eCall sp__law_is_over (aCons (eVar 17) aNil)))) (tB (eOp gtR (eOp1 lenR (eOp ixR (eVar 17) (eC (.int 0)))) (eOp addR (eOp1 lenR (eVar 11)) (eC (.int 1)))))) (sRet (eC (.bl false))) sNext)
  (sRet (eAnd (eOp eqR (eLc (iRange1 (aCons (eOp1 lenR (eVar 13)) aNil)) (CT.one 14) (tB (eOp neR (eCall sp__law_over_value (aCons (eVar 17) (aCons (eTup (aCons (eVar 14) (aCons (eC (.int 1)) aNil))) aNil))) (eTup (aCons (eOp1 sumR (eSl (eVar 13) oNone (oSome (eVar 14)))) (aCons (eC (.int 1)) aNil))))) (eVar 14) [14]) (eLst aNil)) (eOp eqR (eCall sp_differences (aCons (eLst aNil) aNil)) (eLst aNil)))))))))))))))))))))))))))

structure Drw (ps : List (Rat × Rat)) : Prop where
  sx : ∀ j, j < ps.length → RSz 4 (pX ps j)
  sy : ∀ j, j < ps.length → RSz 5 (pY ps j)
  ne : ∀ i j, i < ps.length → j < ps.length → i ≠ j → pX ps i ≠ pX ps j
theorem in_fL {a : Rat} {xs : List Rat} : inD (frD a) (fL xs) = decide (a ∈ xs) := by
  induction xs with
  | nil => simp [inD, fL]
  | cons x t ih =>
    show (eqD (frD x) (frD a) || inD (frD a) (fL t)) = _
    rw [ih]
    simp [eq_comm]
theorem drw_add {ps : List (Rat × Rat)} {x y : Rat} (h : Drw ps) (hx : RSz 4 x) (hy : RSz 5 y) (hn : x ∉ ps.map (·.1)) : Drw (ps ++ [(x, y)]) := by
  have gX : ∀ j, j < ps.length → pX (ps ++ [(x, y)]) j = pX ps j := fun j hj => by
    rw [pX_lt (by simp; omega), pX_lt hj, List.getElem_append_left hj]
  have gY : ∀ j, j < ps.length → pY (ps ++ [(x, y)]) j = pY ps j := fun j hj => by
    rw [pY_lt (by simp; omega), pY_lt hj, List.getElem_append_left hj]
  have lX : pX (ps ++ [(x, y)]) ps.length = x := by rw [pX_lt (by simp), List.getElem_append_right (Nat.le_refl _)]; simp
  have lY : pY (ps ++ [(x, y)]) ps.length = y := by rw [pY_lt (by simp), List.getElem_append_right (Nat.le_refl _)]; simp
  have nx : ∀ j, j < ps.length → pX ps j ≠ x := fun j hj z => hn (List.mem_map.mpr ⟨ps[j], List.getElem_mem hj, by rw [← z, pX_lt hj]⟩)
  refine ⟨fun j hj => ?_, fun j hj => ?_, fun i j hi hj hij => ?_⟩
  · simp at hj
    by_cases e : j = ps.length
    · rw [e, lX]; exact hx
    · rw [gX j (by omega)]; exact h.sx j (by omega)
  · simp at hj
    by_cases e : j = ps.length
    · rw [e, lY]; exact hy
    · rw [gY j (by omega)]; exact h.sy j (by omega)
  · simp at hi hj
    by_cases e : i = ps.length
    · rw [e, lX, gX j (by omega)]; exact fun z => nx j (by omega) z.symm
    · rw [gX i (by omega)]
      by_cases e' : j = ps.length
      · rw [e', lX]; exact nx i (by omega)
      · rw [gX j (by omega)]; exact h.ne i j (by omega) (by omega) hij
theorem pL_fin {ps : List (Rat × Rat)} {n : Nat} : ∀ x ∈ pL ps, D.fin (n + 2) x := fun x hx => by
  obtain ⟨r, _, rfl⟩ := List.mem_map.mp hx
  simp [pqD]
theorem pL_snoc {ps : List (Rat × Rat)} {x y : Rat} : pL (ps ++ [(x, y)]) = pL ps ++ [.tup [frD x, frD y]] := by simp only [pL, List.map_append, List.map_cons, List.map_nil, pqD]
theorem sum_iL {xs : List Int} : sumR (.lst (iL xs)) = (True, .sh (.int xs.sum)) := by
  unfold sumR
  have : intsOf (iL xs) = some xs := intsOf_map xs
  simp only [this]
theorem mkL_sum {f : Nat → Int} : ∀ n, (mkL n f).sum = Sg n f
  | 0 => rfl
  | n + 1 => by
    have e : mkL (n + 1) f = mkL n f ++ [f n] := by unfold mkL; rw [List.range_succ, List.map_append]; rfl
    rw [e, List.sum_append, mkL_sum n, Sg_s]
    simp
theorem chs_le : ∀ n k, chs n k ≤ 2 ^ n
  | n, 0 => by rw [chs_0]; exact Nat.two_pow_pos _
  | 0, k + 1 => by simp [chs]
  | n + 1, k + 1 => by
    have a := chs_le n k
    have b := chs_le n (k + 1)
    rw [chs, Nat.pow_succ]
    omega
theorem chs_ok {n k : Nat} (h : n < 32) (x : Int) : IntMulOk x ((chs n k : Nat) : Int) := mulOkR (by
  have a := chs_le n k
  have : 2 ^ n ≤ 2 ^ 32 := Nat.pow_le_pow_right (by decide) (by omega)
  omega)
theorem fc_ok {row p : List Int} {b : Nat} (h : FcOk row) (q : Quo (fac 16) (fcR row row.length) p b) : (∀ x ∈ p, Sz 245 x) ∧ Sz 45 (b : Int) ∧ p.length ≤ row.length ∧ ∀ n : Nat, evR p (((n : Nat) : Int) : Rat) / (((b : Nat) : Int) : Rat) = ((Sg row.length fun i => coef row i * ((chs n i : Nat) : Int) : Int) : Rat) := by
  obtain ⟨z1, z2⟩ := quo_sz (s := 45) (t := 200) q (fac_pos 16) (fun r hr => (fc_rsz h (Nat.le_refl _) r hr).num) (fac_dvd 0 (by decide)).2
  have l1 := quo_len q
  have l2 := fcR_len row row.length
  refine ⟨z1, z2, by omega, fun n => ?_⟩
  rw [quo_ev q, Rat.intCast_natCast, Rat.intCast_natCast, fcR_ev]
  rw [Rat.mul_comm]
  exact Rat.mul_div_cancel (natCast_ne q.pos)
theorem cutIL {xs : List Int} {m : Nat} : cutD (iL xs) none (some (m : Int)) = iL (xs.take m) := by
  unfold cutD
  have e : HT.sIx (iL xs).length (iL xs).length (some (m : Int)) = min m (iL xs).length := HT.sIx_nat _ _ m
  rw [e, HT.sIx_none, Nat.sub_zero, List.drop_zero, iL_len]
  show (xs.map D.int).take _ = (xs.take m).map D.int
  rw [List.map_take, ← List.map_take, ← List.map_take]
  congr 1
  by_cases h : m ≤ xs.length
  · rw [Nat.min_eq_left h]
  · rw [Nat.min_eq_right (by omega), List.take_length, List.take_of_length_le (by omega)]
theorem take_sum {N n : Nat} {f : Nat → Int} (h : n ≤ N) : ((mkL N f).take n).sum = Sg n f := by
  have : (mkL N f).take n = mkL n f := by
    unfold mkL
    rw [← List.map_take, List.take_range, Nat.min_eq_left h]
  rw [this, mkL_sum]
theorem k_law : sp_law.Ok 20 d_law := by
  intro (ns : List Int) (h : ns.length ≤ 63)
  simp [entry, sp_law, lawSpec, frz_ints]
  unfold d_law
  refine cut (fun e => ∃ c, e = [.sh (intsD ns), .ow [.int c], .no, .no, .no, .no, .no, .no, .no, .no, .no, .no, .no, .no, .no, .no, .no, .no, .no, .no]) ?_ ?_
  · simp -dsimp
    refine c_law_big ⟨h, by decide, by decide, by decide, by decide⟩ fun c => ?_
    simp -dsimp
    exact hold ⟨_, rfl⟩
  rintro e ⟨c, rfl⟩
  refine cut (fun e => e = [.sh (intsD ns), .ow [.int c], .ow (pL []), .no, .no, .no, .no, .no, .no, .no, .no, .no, .no, .no, .no, .no, .no, .no, .no, .no]) ?_ ?_
  · simp -dsimp
    exact hold rfl
  rintro e rfl
  refine cut (fun e => ∃ (c : Int) (ps : List (Rat × Rat)) (s3 s4 s5 : Sl), e = [.sh (intsD ns), .ow [.int c], .ow (pL ps), s3, s4, s5, .no, .no, .no, .no, .no, .no, .no, .no, .no, .no, .no, .no, .no, .no] ∧ ps.length ≤ 6 ∧ Drw ps) ?_ ?_
  · have z7 : Sz 9000 7 := szLit' (by decide)
    have z21 : Sz 9000 21 := szLit' (by decide)
    have z41 : Sz 9000 41 := szLit' (by decide)
    have z4 : Sz 9000 4 := szLit' (by decide)
    have z5 : Sz 9000 5 := szLit' (by decide)
    have a0 := Int.emod_nonneg c (b := 7) (by decide)
    have a1 := Int.emod_lt_of_pos c (b := 7) (by decide)
    obtain ⟨m, hm⟩ := Int.eq_ofNat_of_zero_le a0
    rw [hm] at a1
    have sm : Sm (m : Int) := sm_n (by omega)
    simp -dsimp
    refine forI (rangeD 0 m) [.sh (intsD ns), .ow [.int (c / 7)], .ow (pL []), .no, .no, .no, .no, .no, .no, .no, .no, .no, .no, .no, .no, .no, .no, .no, .no, .no] (fun Q q => by simpa [sm, z7, hm] using q) (fun k e => ∃ (c : Int) (ps : List (Rat × Rat)) (s3 s4 s5 : Sl), e = [.sh (intsD ns), .ow [.int c], .ow (pL ps), s3, s4, s5, .no, .no, .no, .no, .no, .no, .no, .no, .no, .no, .no, .no, .no, .no] ∧ ps.length ≤ k ∧ Drw ps) ⟨_, [], _, _, _, rfl, Nat.le_refl _, ⟨fun j hj => absurd hj (Nat.not_lt_zero _), fun j hj => absurd hj (Nat.not_lt_zero _), fun i j hi => absurd hi (Nat.not_lt_zero _)⟩⟩ ?_ ?_
    · rintro k x e1 hx ⟨c, ps, s3, s4, s5, rfl, lp, dr⟩
      rw [rangeD_get] at hx
      split at hx
      · rename_i hk
        cases hx
        rw [r_gN, Int.zero_add]
        refine cut (fun e => ∃ (c : Int) (x : Rat), e = [.sh (intsD ns), .ow [.int c], .ow (pL ps), .sh (.int k), .sh (frD x), s5, .no, .no, .no, .no, .no, .no, .no, .no, .no, .no, .no, .no, .no, .no] ∧ RSz 4 x) ?_ ?_
        · have d0 := Int.emod_nonneg (c / 21) (b := 4) (by decide)
          have d1 := Int.emod_lt_of_pos (c / 21) (b := 4) (by decide)
          obtain ⟨t1, t2⟩ := divInt_le (p := c % 21 - 10) (q := 1 + c / 21 % 4) (by omega)
          simp -dsimp [z21, z4]
          exact ⟨⟨by omega, sz_16 (by omega)⟩, hold ⟨_, _, rfl, by show _ < 16; omega, by show _ < 16; omega⟩⟩
        rintro e ⟨c, x, rfl, rx⟩
        refine cut (fun e => ∃ (c : Int) (y : Rat), e = [.sh (intsD ns), .ow [.int c], .ow (pL ps), .sh (.int k), .sh (frD x), .sh (frD y), .no, .no, .no, .no, .no, .no, .no, .no, .no, .no, .no, .no, .no, .no] ∧ RSz 5 y) ?_ ?_
        · have d0 := Int.emod_nonneg (c / 41) (b := 5) (by decide)
          have d1 := Int.emod_lt_of_pos (c / 41) (b := 5) (by decide)
          obtain ⟨t1, t2⟩ := divInt_le (p := c % 41 - 20) (q := 1 + c / 41 % 5) (by omega)
          simp -dsimp [z41, z5]
          exact ⟨⟨by omega, sz_16 (by omega)⟩, hold ⟨_, _, rfl, by show _ < 32; omega, by show _ < 32; omega⟩⟩
        rintro e ⟨c, y, rfl, ry⟩
        obtain ⟨xs, hxs⟩ : ∃ xs, xs = ps.map (·.1) := ⟨_, rfl⟩
        have lx : xs.length = ps.length := by rw [hxs, List.length_map]
        simp -dsimp
        refine lcO_map (pL ps) (fL xs) rfl (by simp [lx]) (by simp; omega) (by simp) (fun j hj => ?_) (by simp) ?_
        · have hj : j < ps.length := by simpa using hj
          rw [pL_get hj, fL_get (by omega)]
          simp only [hxs, List.getElem_map]
          simp -dsimp
        · have ff : ∀ q ∈ fL xs, q.fin 29 := fun q hq => by
            obtain ⟨r, _, rfl⟩ := List.mem_map.mp hq
            simp
          by_cases g : x ∈ xs
          · simp -dsimp [in_fL, g]
            exact ⟨ff, hold ⟨_, ps, _, _, _, rfl, by omega, dr⟩⟩
          · simp -dsimp [in_fL, g]
            refine ⟨ff, by omega, hold ⟨c, ps ++ [(x, y)], .sh (.int k), .sh (frD x), .sh (frD y), by rw [pL_snoc], by simp; omega, drw_add dr rx ry (by rw [← hxs]; exact g)⟩⟩
      · cases hx
    · rintro e1 ⟨c, ps, s3, s4, s5, rfl, lp, dr⟩
      rw [rangeD_len] at lp
      exact ⟨_, _, _, _, _, rfl, by omega, dr⟩
  rintro e ⟨c, ps, s3, s4, s5, rfl, lps, dr⟩
  have PO : PtsOk ps := ⟨lps, dr.sx, dr.sy, dr.ne⟩
  have eL : eqD (.lst (pL ps)) (.lst (pL ps)) = true := eqD_refl (n := 3) (fin_lst pL_fin)
  have fL1 : ∀ {n : Nat}, (D.lst (pL ps)).fin (n + 3) := fun {n} => fin_lst pL_fin
  refine cut (fun e => e = [.sh (intsD ns), .ow [.int c], .ow (pL ps), s3, s4, s5, .sh (.lst (pL ps)), .no, .no, .no, .no, .no, .no, .no, .no, .no, .no, .no, .no, .no]) ?_ ?_
  · simp -dsimp
    exact hold rfl
  rintro e rfl
  refine cut (fun e => ∃ p b, e = [.sh (intsD ns), .ow [.int c], .ow (pL ps), s3, s4, s5, .sh (.lst (pL ps)), .sh (ovD p (b : Nat)), .no, .no, .no, .no, .no, .no, .no, .no, .no, .no, .no, .no] ∧ Thr ps p b) ?_ ?_
  · simp -dsimp
    refine c_through PO fun p b T => ?_
    simp -dsimp
    exact hold ⟨p, b, rfl, T⟩
  rintro e ⟨p, b, rfl, T⟩
  have bp := T.pos
  refine cut (fun e => e = [.sh (intsD ns), .ow [.int c], .ow (pL ps), s3, s4, s5, .sh (.lst (pL ps)), .sh (ovD p (b : Nat)), .no, .no, .no, .no, .no, .no, .no, .no, .no, .no, .no, .no]) ?_ ?_
  · simp -dsimp
    refine c__law_is_over ⟨fun x hx => (T.sp x hx).up (by decide), T.sb.up (by decide), T.tr, by omega, T.one⟩ ?_
    have ll : ¬ ps.length < p.length := by have := T.len; omega
    simp -dsimp [ll, eL]
    exact ⟨pL_fin, hold rfl⟩
  rintro e rfl
  refine cut (fun e => e = [.sh (intsD ns), .ow [.int c], .sh (.lst (pL ps)), s3, s4, s5, .sh (.lst (pL ps)), .sh (ovD p (b : Nat)), .no, .no, .no, .no, .no, .no, .no, .no, .no, .no, .no, .no]) ?_ ?_
  · simp -dsimp
    refine lcI (pL ps) [.sh (intsD ns), .ow [.int c], .sh (.lst (pL ps)), s3, s4, s5, .sh (.lst (pL ps)), .sh (ovD p (b : Nat)), .no, .no, .no, .no, .no, .no, .no, .no, .no, .no, .no, .no] (fun Q q => by simpa using q) (by simp) (fun k o e1 => o = [] ∧ e1 = [.sh (intsD ns), .ow [.int c], .sh (.lst (pL ps)), s3, s4, s5, .sh (.lst (pL ps)), .sh (ovD p (b : Nat)), .no, .no, .no, .no, .no, .no, .no, .no, .no, .no, .no, .no]) ⟨rfl, by simp⟩ ?_ ?_
    · rintro k x o e1 hx ⟨rfl, rfl⟩
      obtain ⟨hk, rfl⟩ := List.getElem?_eq_some_iff.mp hx
      have hk : k < ps.length := by simpa using hk
      rw [pL_get hk, ← pX_lt hk, ← pY_lt hk]
      have v : evR p (pX ps k) / (((b : Nat) : Int) : Rat) = pY ps k := by
        rw [T.val k hk, Rat.intCast_natCast]
        exact Rat.mul_div_cancel (natCast_ne bp)
      have lp := T.len
      have vo : VOk 4 8800 p (pX ps k) := ⟨T.sp, PO.sx k hk, by have := Nat.mul_le_mul_left 5 (show p.length + 1 ≤ 7 by omega); omega, by decide⟩
      simp -dsimp
      refine c__law_over_value ⟨vo, by omega, T.sb.up (by decide)⟩ ?_
      rw [v]
      simp -dsimp
      exact holdL ⟨rfl, rfl⟩
    · rintro o e1 ⟨rfl, rfl⟩
      simp -dsimp
      exact hold rfl
  rintro e rfl
  clear eL fL1 T bp PO
  generalize Sl.sh (.lst (pL ps)) = s2
  generalize Sl.sh (ovD p (b : Nat)) = s7
  clear b p dr lps ps
  have fLa : ∀ {a b : List Rat}, fL a ++ fL b = fL (a ++ b) := fun {a b} => by simp only [fL, List.map_append]
  refine cut (fun e => ∃ (c : Int) (rs : List Rat), e = [.sh (intsD ns), .ow [.int c], s2, s3, s4, s5, s2, s7, .sh (.lst (fL rs)), .no, .no, .no, .no, .no, .no, .no, .no, .no, .no, .no] ∧ rs.length ≤ 6 ∧ ∀ r ∈ rs, Fb 2520 (20 * 2520) r) ?_ ?_
  · have z6 : Sz 9000 6 := szLit' (by decide)
    have z41 : Sz 9000 41 := szLit' (by decide)
    have z9 : Sz 9000 9 := szLit' (by decide)
    have z2 : Sz 9000 2 := szLit' (by decide)
    have o0 : D.tup [.int 0, .int 1] = frD 0 := rfl
    have a0 := Int.emod_nonneg c (b := 6) (by decide)
    have a1 := Int.emod_lt_of_pos c (b := 6) (by decide)
    obtain ⟨m, hm⟩ := Int.eq_ofNat_of_zero_le a0
    rw [hm] at a1
    have sm : Sm (m : Int) := sm_n (by omega)
    simp -dsimp
    refine lcI (rangeD 0 m) [.sh (intsD ns), .ow [.int (c / 6)], s2, s3, s4, s5, s2, s7, .no, .no, .no, .no, .no, .no, .no, .no, .no, .no, .no, .no] (fun Q q => by simpa [sm, z6, hm] using q) (by simp) (fun k o e1 => ∃ xs c', o = fL xs ∧ xs.length = k ∧ (∀ r ∈ xs, Fb 2520 (20 * 2520) r) ∧ e1 = [.sh (intsD ns), .ow [.int c'], s2, s3, s4, s5, s2, s7, .no, .no, .no, .no, .no, .no, .no, .no, .no, .no, .no, .no]) ⟨[], _, rfl, rfl, by simp, by simp; rfl⟩ ?_ ?_
    · rintro k x o e1 hx ⟨xs, c', rfl, hl, hb, rfl⟩
      rw [rangeD_get] at hx
      split at hx
      · cases hx
        have b0 := Int.emod_nonneg c' (b := 41) (by decide)
        have b1 := Int.emod_lt_of_pos c' (b := 41) (by decide)
        have d0 := Int.emod_nonneg (c' / 41) (b := 9) (by decide)
        have d1 := Int.emod_lt_of_pos (c' / 41) (b := 9) (by decide)
        have ff : Fb 2520 (20 * 2520) (Rat.divInt (c' % 41 - 20) (1 + c' / 41 % 9)) := rat_fb (by omega) (by omega) (by omega)
        simp -dsimp [z41, z9]
        refine ⟨⟨by omega, sz_16 (by omega)⟩, by omega, holdL ⟨xs ++ [Rat.divInt (c' % 41 - 20) (1 + c' / 41 % 9)], _, (fL_snoc).symm, by simp [hl], fun r hr => ?_, rfl⟩⟩
        rcases List.mem_append.mp hr with h | h
        · exact hb r h
        · rw [List.mem_singleton.mp h]
          exact ff
      · cases hx
    · rintro o e1 ⟨xs, c', rfl, hl, hb, rfl⟩
      rw [rangeD_len] at hl
      have b0 := Int.emod_nonneg c' (b := 2) (by decide)
      have b1 := Int.emod_lt_of_pos c' (b := 2) (by decide)
      simp -dsimp [z2, o0, fLa]
      refine ⟨⟨by omega, by omega, by omega⟩, by omega, hold ⟨_, _, rfl, by simp; omega, fun r hr => ?_⟩⟩
      rcases List.mem_append.mp hr with h | h
      · exact hb r h
      · rw [(List.mem_replicate.mp h).2]
        exact fb_zero (by decide)
  rintro e ⟨c, rs, rfl, lrs, brs⟩
  refine cut (fun e => ∃ p b, e = [.sh (intsD ns), .ow [.int c], s2, s3, s4, s5, s2, s7, .sh (.lst (fL rs)), .sh (ovD p (b : Nat)), .no, .no, .no, .no, .no, .no, .no, .no, .no, .no] ∧ Quo 2520 rs p b ∧ (∀ x ∈ p, Sz 9000 x) ∧ Sz 9000 (b : Int)) ?_ ?_
  · have hn : ∀ q ∈ rs, Sz 20 q.num := fun q hq => Nat.lt_of_le_of_lt (fb_sz (brs q hq)).2 (by decide)
    have hd : Sz 12 ((2520 : Nat) : Int) := by show _ < _; decide
    have hv : ∀ q ∈ rs, q.den ∣ 2520 := fun q hq => by
      obtain ⟨z, _, e⟩ := fb_eq (brs q hq)
      rw [e, Rat.divInt_ofNat, Rat.den_mkRat, if_neg (by decide)]
      exact Nat.div_dvd_of_dvd (Nat.gcd_dvd_left _ _)
    simp -dsimp
    refine c_as_quotient (D := 2520) (t := 20) ⟨⟨by decide, hd.up (by decide), hv⟩, hn, by decide, by omega⟩ fun p b Qo => ?_
    obtain ⟨z1, z2⟩ := quo_sz Qo (by decide) hn hd
    simp -dsimp
    exact hold ⟨p, b, rfl, Qo, fun x hx => (z1 x hx).up (by decide), z2.up (by decide)⟩
  rintro e ⟨p, b, rfl, Qo, zp, zb⟩
  have b0 := Qo.pos
  refine cut (fun e => e = [.sh (intsD ns), .ow [.int c], s2, s3, s4, s5, s2, s7, .sh (.lst (fL rs)), .sh (ovD p (b : Nat)), .no, .no, .no, .no, .no, .no, .no, .no, .no, .no]) ?_ ?_
  · simp -dsimp
    refine c__law_is_over ⟨zp, zb, Qo.tr, by omega, Qo.one⟩ ?_
    have ll : ¬ rs.length < p.length := by have := quo_len Qo; omega
    simp -dsimp [ll]
    exact hold rfl
  rintro e rfl
  refine cut (fun e => ∃ s10 : Sl, e = [.sh (intsD ns), .ow [.int c], s2, s3, s4, s5, s2, s7, .sh (.lst (fL rs)), .sh (ovD p (b : Nat)), s10, .no, .no, .no, .no, .no, .no, .no, .no, .no] ∧ s10.plain) ?_ ?_
  · simp -dsimp
    refine forR (n := rs.length) (by omega) (fun Q => by simp) (fun k e => ∃ s10 : Sl, e = [.sh (intsD ns), .ow [.int c], s2, s3, s4, s5, s2, s7, .sh (.lst (fL rs)), .sh (ovD p (b : Nat)), s10, .no, .no, .no, .no, .no, .no, .no, .no, .no] ∧ s10.plain) ⟨_, rfl, trivial⟩ ?_ ?_
    · rintro k hk e ⟨s10, rfl, _⟩
      have a2 : rs[k]? = some (qc rs k) := by rw [List.getElem?_eq_getElem hk, qc_lt hk]
      have dv : Rat.divInt (coef p k) (b : Int) = qc rs k := by
        rw [Rat.divInt_eq_div, Qo.co k, Rat.intCast_natCast]
        exact Rat.mul_div_cancel (natCast_ne b0)
      have nb : ¬ b = 0 := by omega
      by_cases g : k < p.length
      · have a1 : p[k]? = some (coef p k) := by rw [List.getElem?_eq_getElem g, coef_lt g]
        simp -dsimp [a1, a2, g, dv, zb, nb]
        rw [iL_get g, ← coef_lt g]
        simp -dsimp [a2, dv, zb, nb]
        exact hold ⟨_, rfl, trivial⟩
      · have q0 : qc rs k = 0 := by rw [← dv, coef_ge (by omega)]; simp
        simp -dsimp [a2, g, zb, nb, q0]
        exact hold ⟨_, rfl, trivial⟩
    · rintro e ⟨s10, rfl, p10⟩
      exact ⟨_, rfl, p10⟩
  rintro e ⟨s10, rfl, p10⟩
  clear Qo zp zb b0
  generalize Sl.sh (.lst (fL rs)) = s8
  generalize Sl.sh (ovD p (b : Nat)) = s9
  clear b p brs lrs rs
  refine cut (fun e => ∃ (c : Int) (P : List Int), e = [.sh (intsD ns), .ow [.int c], s2, s3, s4, s5, s2, s7, s8, s9, s10, .sh (lsD P), .no, .no, .no, .no, .no, .no, .no, .no] ∧ Tr P ∧ P.length ≤ 16 ∧ ∀ x ∈ P, x.natAbs ≤ 12) ?_ ?_
  · have z8 : Sz 9000 8 := szLit' (by decide)
    by_cases g : c % 8 = 3
    · simp -dsimp [z8, g]
      refine c__law_poly (n := 15) (b := 12) ⟨by decide, by decide⟩ fun p c' hp => ?_
      simp -dsimp
      exact hold ⟨_, _, rfl, hp.2.2, by have := hp.1; omega, fun x hx => by have := hp.2.1 x hx; omega⟩
    · simp -dsimp [z8, g]
      refine c__law_poly (n := 6) (b := 12) ⟨by decide, by decide⟩ fun p c' hp => ?_
      simp -dsimp
      exact hold ⟨_, _, rfl, hp.2.2, by have := hp.1; omega, fun x hx => by have := hp.2.1 x hx; omega⟩
  rintro e ⟨c, P, rfl, tP, lP, cP⟩
  obtain ⟨nb, hnb⟩ : ∃ nb, nb = trim (bcF P) := ⟨_, rfl⟩
  have tn : Tr nb := by rw [hnb]; exact trim_tr _
  have ln : nb.length = P.length := by rw [hnb]; exact bc_len tP
  have zn : ∀ x ∈ nb, Sz 90 x := by rw [hnb]; exact bc_sz lP cP
  refine cut (fun e => e = [.sh (intsD ns), .ow [.int c], s2, s3, s4, s5, s2, s7, s8, s9, s10, .sh (lsD P), .sh (lsD nb), .no, .no, .no, .no, .no, .no, .no]) ?_ ?_
  · have l1 : P.length ≤ 1000 := by omega
    simp -dsimp [l1]
    rw [← hnb]
    exact hold rfl
  rintro e rfl
  refine cut (fun e => e = [.sh (intsD ns), .ow [.int c], s2, s3, s4, s5, s2, s7, s8, s9, s10, .sh (lsD P), .sh (lsD nb), .no, .no, .no, .no, .no, .no, .no]) ?_ ?_
  · simp -dsimp [tn, ln]
    exact hold rfl
  rintro e rfl
  obtain ⟨vs, hvs⟩ : ∃ vs, vs = mkL (P.length + 6) (viL P) := ⟨_, rfl⟩
  have lv : vs.length = P.length + 6 := by rw [hvs, mkL_len']
  have cv : ∀ n, n < P.length + 6 → coef vs n = viL P n := fun n hn => by rw [hvs, coef_mkL, if_pos hn]
  have rn : ∀ n : Nat, n < 32 → RSz 5 (((n : Nat) : Int) : Rat) := fun n hn => RSz.int (n := 5) (by show _ < _; omega) (by decide)
  refine cut (fun e => ∃ s14 : Sl, e = [.sh (intsD ns), .ow [.int c], s2, s3, s4, s5, s2, s7, s8, s9, s10, .sh (lsD P), .sh (lsD nb), .sh (lsD vs), s14, .no, .no, .no, .no, .no] ∧ s14.plain) ?_ ?_
  · have sm : Sm ((P.length : Int) + 6) := by have := sm_n (n := P.length + 6) (by omega); simpa using this
    have tn : ((P.length : Int) + 6).toNat = P.length + 6 := by omega
    simp -dsimp
    refine lcL (rangeD 0 (P.length + 6)) vs (by rw [rangeD_len, lv]) (by omega) (fun Q => by simp [sm, tn]) (by simp) (fun n hn => ?_) ?_
    · have e0 := rangeD_at hn
      have hn : n < P.length + 6 := by rwa [rangeD_len] at hn
      rw [Int.zero_add] at e0
      rw [e0, cv n hn]
      have vo : VOk 5 4 P (((n : Nat) : Int) : Rat) := ⟨fun x hx => Nat.lt_of_le_of_lt (cP x hx) (by decide), rn n (by omega), by omega, by decide⟩
      have ev : (evR P (((n : Nat) : Int) : Rat)) = ((viL P n : Int) : Rat) := by rw [viL_ev, Rat.intCast_natCast]
      simp -dsimp [frD_int]
      refine c__law_value5 vo fun _ => ?_
      rw [ev]
      simp -dsimp
    · simp -dsimp
      exact hold ⟨_, rfl, trivial⟩
  rintro e ⟨s14, rfl, p14⟩
  have bv : ∀ n, viL P n = Sg nb.length fun i => coef nb i * ((chs n i : Nat) : Int) := fun n => by rw [ln, hnb]; exact bc_val tP n
  refine cut (fun e => ∃ s10 s14 : Sl, e = [.sh (intsD ns), .ow [.int c], s2, s3, s4, s5, s2, s7, s8, s9, s10, .sh (lsD P), .sh (lsD nb), .sh (lsD vs), s14, .no, .no, .no, .no, .no] ∧ s10.plain ∧ s14.plain) ?_ ?_
  · simp -dsimp
    refine forR (n := vs.length) (by omega) (fun Q => by simp) (fun n e => ∃ s10 s14 : Sl, e = [.sh (intsD ns), .ow [.int c], s2, s3, s4, s5, s2, s7, s8, s9, s10, .sh (lsD P), .sh (lsD nb), .sh (lsD vs), s14, .no, .no, .no, .no, .no] ∧ s10.plain ∧ s14.plain) ⟨_, _, rfl, p10, p14⟩ ?_ ?_
    · rintro n hn e ⟨s10, s14, rfl, p10, p14⟩
      have a1 : atI (iL vs) (n : Int) = some (.int (viL P n)) := by rw [← cv n (by omega)]; exact atI_n' hn
      have a1' : (iL vs)[n]? = some (.int (viL P n)) := by rw [← atI_of]; exact a1
      have sm : Sm (nb.length : Int) := sm_n (by omega)
      obtain ⟨out, ho⟩ : ∃ out, out = mkL nb.length fun i => coef nb i * ((chs n i : Nat) : Int) := ⟨_, rfl⟩
      have os : out.sum = viL P n := by rw [ho, mkL_sum, ← bv]
      have lo : out.length = nb.length := by rw [ho, mkL_len']
      simp -dsimp [a1']
      refine lcL (rangeD 0 nb.length) out (by rw [rangeD_len, lo]) (by omega) (fun Q => by simp [sm]) (by simpa using p10) (fun j hj => ?_) ?_
      · have e0 := rangeD_at hj
        have hj : j < nb.length := by rwa [rangeD_len] at hj
        rw [Int.zero_add] at e0
        have b1 : (iL nb)[j]? = some (.int (coef nb j)) := by rw [← atI_of]; exact atI_n' hj
        have b2 : nb[j]? = some (coef nb j) := by rw [List.getElem?_eq_getElem hj, coef_lt hj]
        rw [e0, ho, coef_mkL, if_pos hj]
        have m1 := chs_ok (n := n) (k := j) (by omega) (coef nb j)
        simp -dsimp [b1, b2, m1]
        exact ⟨by omega, by omega⟩
      · have a2 : vs[n]? = some (viL P n) := by rw [List.getElem?_eq_getElem hn, ← coef_lt hn, cv n (by omega)]
        simp -dsimp [sum_iL, os, a1', a2]
        exact hold ⟨_, _, rfl, p10, trivial⟩
    · rintro e ⟨s10, s14, rfl, p10, p14⟩
      exact ⟨_, _, rfl, p10, p14⟩
  rintro e ⟨s10, s14, rfl, p10, p14⟩
  have fcn : FcOk nb := ⟨by omega, zn⟩
  refine cut (fun e => ∃ s10 : Sl, e = [.sh (intsD ns), .ow [.int c], s2, s3, s4, s5, s2, s7, s8, s9, s10, .sh (lsD P), .sh (lsD nb), .sh (lsD vs), s14, .no, .no, .no, .no, .no] ∧ s10.plain) ?_ ?_
  · have it := it_range2 (e := [.sh (intsD ns), .ow [.int c], s2, s3, s4, s5, s2, s7, s8, s9, s10, .sh (lsD P), .sh (lsD nb), .sh (lsD vs), s14, .no, .no, .no, .no, .no]) (m := 1) (n := (vs.length : Int)) ⟨by decide, by decide⟩ (sm_n (by omega)) (r := (aCons (eC (.int 1)) (aCons (eOp1 lenR (eVar 13)) aNil))) (fun QA => by simp)
    rw [show ((vs.length : Int) - 1).toNat = vs.length - 1 by omega] at it
    have l1 : vs.length ≤ 1000 := by omega
    simp -dsimp
    refine c_from_choices fcn fun p b Qo => ?_
    obtain ⟨rfl, rfl⟩ := quo_int Qo tP fun k => by rw [hnb]; exact bc_qc tP k
    simp -dsimp [l1]
    refine lcLI (rangeD 1 (vs.length - 1)) (dfL vs) (by rw [rangeD_len]; unfold dfL; rw [mkL_len']) (by unfold dfL; rw [mkL_len']; omega) it (by simpa using p10) (fun j hj => ?_) ?_
    · have e0 := rangeD_at hj
      have hj : j < vs.length - 1 := by rwa [rangeD_len] at hj
      have a1 : atI (iL vs) ((1 : Int) + (j : Int)) = some (.int (coef vs (j + 1))) := by
        rw [show (1 : Int) + (j : Int) = ((j + 1 : Nat) : Int) by omega]
        exact atI_n' (by omega)
      have a2 : atI (iL vs) ((1 : Int) + (j : Int) - 1) = some (.int (coef vs j)) := by
        rw [show (1 : Int) + (j : Int) - 1 = (j : Int) by omega]
        exact atI_n' (by omega)
      rw [e0]
      unfold dfL
      rw [coef_mkL, if_pos hj]
      simp -dsimp [a1, a2]
    · simp -dsimp
      exact hold ⟨_, rfl, p10⟩
  rintro e ⟨s10, rfl, p10⟩
  refine cut (fun e => ∃ (c : Int) (dr : List Int), e = [.sh (intsD ns), .ow [.int c], s2, s3, s4, s5, s2, s7, s8, s9, s10, .sh (lsD P), .sh (lsD nb), .sh (lsD vs), s14, .sh (lsD dr), .no, .no, .no, .no] ∧ dr.length ≤ 5 ∧ ∀ x ∈ dr, x.natAbs ≤ 10) ?_ ?_
  · have z6 : Sz 9000 6 := szLit' (by decide)
    have z21 : Sz 9000 21 := szLit' (by decide)
    have a0 := Int.emod_nonneg c (b := 6) (by decide)
    have a1 := Int.emod_lt_of_pos c (b := 6) (by decide)
    obtain ⟨m, hm⟩ := Int.eq_ofNat_of_zero_le a0
    rw [hm] at a1
    have sm : Sm (m : Int) := sm_n (by omega)
    simp -dsimp
    refine lcI (rangeD 0 m) [.sh (intsD ns), .ow [.int (c / 6)], s2, s3, s4, s5, s2, s7, s8, s9, s10, .sh (lsD P), .sh (lsD nb), .sh (lsD vs), s14, .no, .no, .no, .no, .no] (fun Q q => by simpa [sm, z6, hm] using q) (by simpa using p10) (fun k o e1 => ∃ xs c', o = iL xs ∧ xs.length = k ∧ (∀ x ∈ xs, x.natAbs ≤ 10) ∧ e1 = [.sh (intsD ns), .ow [.int c'], s2, s3, s4, s5, s2, s7, s8, s9, .no, .sh (lsD P), .sh (lsD nb), .sh (lsD vs), s14, .no, .no, .no, .no, .no]) ⟨[], _, rfl, rfl, by simp, by simp; rfl⟩ ?_ ?_
    · rintro k x o e1 hx ⟨xs, c', rfl, hl, hb, rfl⟩
      rw [rangeD_get] at hx
      split at hx
      · cases hx
        have b0 := Int.emod_nonneg c' (b := 21) (by decide)
        have b1 := Int.emod_lt_of_pos c' (b := 21) (by decide)
        simp -dsimp [z21]
        refine ⟨by omega, holdL ⟨xs ++ [c' % 21 - 10], _, by rw [← iL_app]; rfl, by simp [hl], fun r hr => ?_, rfl⟩⟩
        rcases List.mem_append.mp hr with h | h
        · exact hb r h
        · rw [List.mem_singleton.mp h]
          omega
      · cases hx
    · rintro o e1 ⟨xs, c', rfl, hl, hb, rfl⟩
      rw [rangeD_len] at hl
      simp -dsimp
      exact hold ⟨_, _, rfl, by omega, hb⟩
  rintro e ⟨c, dr, rfl, ldr, bdr⟩
  have fcd : FcOk dr := ⟨by omega, fun x hx => Nat.lt_of_le_of_lt (bdr x hx) (by decide)⟩
  refine cut (fun e => ∃ p b, e = [.sh (intsD ns), .ow [.int c], s2, s3, s4, s5, s2, s7, s8, s9, s10, .sh (lsD P), .sh (lsD nb), .sh (lsD vs), s14, .sh (lsD dr), .sh (ovD p (b : Nat)), .no, .no, .no] ∧ Quo (fac 16) (fcR dr dr.length) p b) ?_ ?_
  · simp -dsimp
    refine c_from_choices fcd fun p b Qo => ?_
    simp -dsimp
    exact hold ⟨p, b, rfl, Qo⟩
  rintro e ⟨p, b, rfl, Qo⟩
  obtain ⟨zp, zb, lp, val⟩ := fc_ok fcd Qo
  have b0 := Qo.pos
  refine cut (fun e => e = [.sh (intsD ns), .ow [.int c], s2, s3, s4, s5, s2, s7, s8, s9, s10, .sh (lsD P), .sh (lsD nb), .sh (lsD vs), s14, .sh (lsD dr), .sh (ovD p (b : Nat)), .no, .no, .no]) ?_ ?_
  · simp -dsimp
    refine c__law_is_over ⟨fun x hx => (zp x hx).up (by decide), zb.up (by decide), Qo.tr, by omega, Qo.one⟩ ?_
    simp -dsimp
    exact ⟨by split <;> omega, hold rfl⟩
  rintro e rfl
  refine cut (fun e => ∃ s10 s14 : Sl, e = [.sh (intsD ns), .ow [.int c], s2, s3, s4, s5, s2, s7, s8, s9, s10, .sh (lsD P), .sh (lsD nb), .sh (lsD vs), s14, .sh (lsD dr), .sh (ovD p (b : Nat)), .no, .no, .no] ∧ s10.plain ∧ s14.plain) ?_ ?_
  · have sm : Sm ((dr.length : Int) + 4) := by have := sm_n (n := dr.length + 4) (by omega); simpa using this
    simp -dsimp
    refine forR (n := dr.length + 4) (by omega) (fun Q => by simp [sm]) (fun n e => ∃ s10 s14 : Sl, e = [.sh (intsD ns), .ow [.int c], s2, s3, s4, s5, s2, s7, s8, s9, s10, .sh (lsD P), .sh (lsD nb), .sh (lsD vs), s14, .sh (lsD dr), .sh (ovD p (b : Nat)), .no, .no, .no] ∧ s10.plain ∧ s14.plain) ⟨_, _, rfl, p10, p14⟩ ?_ ?_
    · rintro n hn e ⟨s10, s14, rfl, p10, p14⟩
      have sm : Sm (dr.length : Int) := sm_n (by omega)
      obtain ⟨out, ho⟩ : ∃ out, out = mkL dr.length fun i => coef dr i * ((chs n i : Nat) : Int) := ⟨_, rfl⟩
      have os : out.sum = Sg dr.length fun i => coef dr i * ((chs n i : Nat) : Int) := by rw [ho, mkL_sum]
      have lo : out.length = dr.length := by rw [ho, mkL_len']
      have vo : VOk 5 245 p (((n : Nat) : Int) : Rat) := ⟨zp, rn n (by omega), by omega, by decide⟩
      simp -dsimp [frD_int]
      refine c__law_over_value ⟨vo, by omega, zb.up (by decide)⟩ ?_
      rw [val n]
      simp -dsimp
      refine lcL (rangeD 0 dr.length) out (by rw [rangeD_len, lo]) (by omega) (fun Q => by simp [sm]) (by simpa using p10) (fun j hj => ?_) ?_
      · have e0 := rangeD_at hj
        have hj : j < dr.length := by rwa [rangeD_len] at hj
        rw [Int.zero_add] at e0
        have b1 : (iL dr)[j]? = some (.int (coef dr j)) := by rw [← atI_of]; exact atI_n' hj
        have b2 : dr[j]? = some (coef dr j) := by rw [List.getElem?_eq_getElem hj, coef_lt hj]
        rw [e0, ho, coef_mkL, if_pos hj]
        have m1 := chs_ok (n := n) (k := j) (by omega) (coef dr j)
        simp -dsimp [b1, b2, m1]
        exact ⟨by omega, by omega⟩
      · simp -dsimp [sum_iL, os, frD_int]
        exact hold ⟨_, _, rfl, p10, trivial⟩
    · rintro e ⟨s10, s14, rfl, p10, p14⟩
      exact ⟨_, _, rfl, p10, p14⟩
  rintro e ⟨s10, s14, rfl, p10, p14⟩
  have fcs : FcOk (0 :: nb) := ⟨by rw [List.length_cons]; omega, fun x hx => by
    rcases List.mem_cons.mp hx with rfl | hx
    · exact Nat.two_pow_pos _
    · exact zn x hx⟩
  clear val zp zb lp b0 Qo
  generalize Sl.sh (ovD p (b : Nat)) = s16
  clear b p
  refine cut (fun e => ∃ p b, e = [.sh (intsD ns), .ow [.int c], s2, s3, s4, s5, s2, s7, s8, s9, s10, .sh (lsD P), .sh (lsD nb), .sh (lsD vs), s14, .sh (lsD dr), s16, .sh (ovD p (b : Nat)), .no, .no] ∧ Quo (fac 16) (fcR (0 :: nb) (0 :: nb).length) p b) ?_ ?_
  · simp -dsimp
    refine c_sum_poly ⟨lP, by rw [← hnb]; exact fcs⟩ fun p b Qo => ?_
    rw [← hnb] at Qo
    simp -dsimp
    exact hold ⟨p, b, rfl, Qo⟩
  rintro e ⟨p, b, rfl, Qo⟩
  obtain ⟨zp, zb, lp, val⟩ := fc_ok fcs Qo
  rw [List.length_cons, ln] at lp
  have b0 := Qo.pos
  have val' : ∀ n : Nat, evR p (((n : Nat) : Int) : Rat) / (((b : Nat) : Int) : Rat) = ((Sg n (viL P) : Int) : Rat) := fun n => by
    rw [val n, List.length_cons, ln, hnb]
    congr 1
    exact sum_val tP n
  refine cut (fun e => e = [.sh (intsD ns), .ow [.int c], s2, s3, s4, s5, s2, s7, s8, s9, s10, .sh (lsD P), .sh (lsD nb), .sh (lsD vs), s14, .sh (lsD dr), s16, .sh (ovD p (b : Nat)), .no, .no]) ?_ ?_
  · have ll : ¬ ((P.length : Int) + 1 < p.length) := by omega
    simp -dsimp
    refine c__law_is_over ⟨fun x hx => (zp x hx).up (by decide), zb.up (by decide), Qo.tr, by omega, Qo.one⟩ ?_
    simp -dsimp [ll]
    exact hold rfl
  rintro e rfl
  have sm : Sm (vs.length : Int) := sm_n (by omega)
  simp -dsimp
  refine lcI (rangeD 0 vs.length) [.sh (intsD ns), .ow [.int c], s2, s3, s4, s5, s2, s7, s8, s9, s10, .sh (lsD P), .sh (lsD nb), .sh (lsD vs), s14, .sh (lsD dr), s16, .sh (ovD p (b : Nat)), .no, .no] (fun Q q => by simpa [sm] using q) (by simpa using p14) (fun k o e1 => o = [] ∧ e1 = [.sh (intsD ns), .ow [.int c], s2, s3, s4, s5, s2, s7, s8, s9, s10, .sh (lsD P), .sh (lsD nb), .sh (lsD vs), .no, .sh (lsD dr), s16, .sh (ovD p (b : Nat)), .no, .no]) ⟨rfl, by simp⟩ ?_ ?_
  · rintro n x o e1 hx ⟨rfl, rfl⟩
    rw [rangeD_get] at hx
    split at hx
    · rename_i hn
      cases hx
      have vo : VOk 5 245 p (((n : Nat) : Int) : Rat) := ⟨zp, rn n (by omega), by omega, by decide⟩
      have ts : (vs.take n).sum = Sg n (viL P) := by rw [hvs]; exact take_sum (by omega)
      simp -dsimp [frD_int]
      refine c__law_over_value ⟨vo, by omega, zb.up (by decide)⟩ ?_
      rw [val' n]
      simp -dsimp [cutIL, sum_iL, ts, frD_int]
      exact holdL ⟨rfl, rfl⟩
    · cases hx
  · rintro o e1 ⟨rfl, rfl⟩
    have e0 : D.lst [] = lsD [] := rfl
    simp -dsimp [e0]
    rfl
end Dn

set_option Elab.async false
set_option linter.all false
set_option maxRecDepth 100000
set_option maxHeartbeats 4000000
namespace Rl
open PySem PySem.Spec PyProof.Rows L2 Dn
def topS (i : Nat) : Stmt := PySem.Challenge.pw_roothold_k01_values_and_sums.main.body.getD i (.Pass ⟨0, 0, 0, 0⟩)
abbrev s_common_divisor : Stmt := topS 4
abbrev N_common_divisor : List Str := ["one", "two"]
theorem sc_common_divisor : FnScope N_common_divisor ["one", "two"] (defScope s_common_divisor) := ⟨rfl, rfl, rfl, by decide +kernel, rfl, by decide +kernel, by decide +kernel⟩
abbrev s_ratio : Stmt := topS 5
abbrev N_ratio : List Str := ["numerator", "denominator", "divisor"]
theorem sc_ratio : FnScope N_ratio ["numerator", "denominator"] (defScope s_ratio) := ⟨rfl, rfl, rfl, by decide +kernel, rfl, by decide +kernel, by decide +kernel⟩
abbrev s_plus : Stmt := topS 6
abbrev N_plus : List Str := ["one", "two"]
theorem sc_plus : FnScope N_plus ["one", "two"] (defScope s_plus) := ⟨rfl, rfl, rfl, by decide +kernel, rfl, by decide +kernel, by decide +kernel⟩
abbrev s_minus : Stmt := topS 7
abbrev N_minus : List Str := ["one", "two"]
theorem sc_minus : FnScope N_minus ["one", "two"] (defScope s_minus) := ⟨rfl, rfl, rfl, by decide +kernel, rfl, by decide +kernel, by decide +kernel⟩
abbrev s_times_ratios : Stmt := topS 8
abbrev N_times_ratios : List Str := ["one", "two"]
theorem sc_times_ratios : FnScope N_times_ratios ["one", "two"] (defScope s_times_ratios) := ⟨rfl, rfl, rfl, by decide +kernel, rfl, by decide +kernel, by decide +kernel⟩
abbrev s_over : Stmt := topS 10
abbrev N_over : List Str := ["one", "two"]
theorem sc_over : FnScope N_over ["one", "two"] (defScope s_over) := ⟨rfl, rfl, rfl, by decide +kernel, rfl, by decide +kernel, by decide +kernel⟩
abbrev s_trimmed : Stmt := topS 12
abbrev N_trimmed : List Str := ["numbers", "found"]
theorem sc_trimmed : FnScope N_trimmed ["numbers"] (defScope s_trimmed) := ⟨rfl, rfl, rfl, by decide +kernel, rfl, by decide +kernel, by decide +kernel⟩
abbrev s_times_single : Stmt := topS 13
abbrev N_times_single : List Str := ["one", "two", "found", "place", "number", "other", "entry"]
theorem sc_times_single : FnScope N_times_single ["one", "two"] (defScope s_times_single) := ⟨rfl, rfl, rfl, by decide +kernel, rfl, by decide +kernel, by decide +kernel⟩
abbrev s_content : Stmt := topS 15
abbrev N_content : List Str := ["one", "found", "number"]
theorem sc_content : FnScope N_content ["one"] (defScope s_content) := ⟨rfl, rfl, rfl, by decide +kernel, rfl, by decide +kernel, by decide +kernel⟩
abbrev s_common_bottom : Stmt := topS 17
abbrev N_common_bottom : List Str := ["numbers", "found", "number"]
theorem sc_common_bottom : FnScope N_common_bottom ["numbers"] (defScope s_common_bottom) := ⟨rfl, rfl, rfl, by decide +kernel, rfl, by decide +kernel, by decide +kernel⟩
abbrev s_as_quotient : Stmt := topS 18
abbrev N_as_quotient : List Str := ["numbers", "bottom", "found", "divisor", "number"]
theorem sc_as_quotient : FnScope N_as_quotient ["numbers"] (defScope s_as_quotient) := ⟨rfl, rfl, rfl, by decide +kernel, rfl, by decide +kernel, by decide +kernel⟩
abbrev s_row_product : Stmt := topS 19
abbrev N_row_product : List Str := ["one", "at", "found", "place", "number"]
theorem sc_row_product : FnScope N_row_product ["one", "at"] (defScope s_row_product) := ⟨rfl, rfl, rfl, by decide +kernel, rfl, by decide +kernel, by decide +kernel⟩
abbrev s_row_sum : Stmt := topS 20
abbrev N_row_sum : List Str := ["one", "two", "factor", "found", "place", "number"]
theorem sc_row_sum : FnScope N_row_sum ["one", "two", "factor"] (defScope s_row_sum) := ⟨rfl, rfl, rfl, by decide +kernel, rfl, by decide +kernel, by decide +kernel⟩
abbrev s_through : Stmt := topS 21
abbrev N_through : List Str := ["points", "found", "basis", "left", "place", "point", "later", "other", "gap", "_", "value"]
theorem sc_through : FnScope N_through ["points"] (defScope s_through) := ⟨rfl, rfl, rfl, by decide +kernel, rfl, by decide +kernel, by decide +kernel⟩
abbrev s_differences : Stmt := topS 22
abbrev N_differences : List Str := ["row", "place"]
theorem sc_differences : FnScope N_differences ["row"] (defScope s_differences) := ⟨rfl, rfl, rfl, by decide +kernel, rfl, by decide +kernel, by decide +kernel⟩
abbrev s_value_at_integer : Stmt := topS 23
abbrev N_value_at_integer : List Str := ["one", "at", "found", "number"]
theorem sc_value_at_integer : FnScope N_value_at_integer ["one", "at"] (defScope s_value_at_integer) := ⟨rfl, rfl, rfl, by decide +kernel, rfl, by decide +kernel, by decide +kernel⟩
abbrev s_by_choices : Stmt := topS 24
abbrev N_by_choices : List Str := ["one", "left", "found", "at"]
theorem sc_by_choices : FnScope N_by_choices ["one"] (defScope s_by_choices) := ⟨rfl, rfl, rfl, by decide +kernel, rfl, by decide +kernel, by decide +kernel⟩
abbrev s_choices_poly : Stmt := topS 25
abbrev N_choices_poly : List Str := ["count", "found", "bottom", "place"]
theorem sc_choices_poly : FnScope N_choices_poly ["count"] (defScope s_choices_poly) := ⟨rfl, rfl, rfl, by decide +kernel, rfl, by decide +kernel, by decide +kernel⟩
abbrev s_from_choices : Stmt := topS 26
abbrev N_from_choices : List Str := ["row", "found", "count", "number", "part", "bottom", "entry"]
theorem sc_from_choices : FnScope N_from_choices ["row"] (defScope s_from_choices) := ⟨rfl, rfl, rfl, by decide +kernel, rfl, by decide +kernel, by decide +kernel⟩
abbrev s_sum_poly : Stmt := topS 27
abbrev N_sum_poly : List Str := ["one"]
theorem sc_sum_poly : FnScope N_sum_poly ["one"] (defScope s_sum_poly) := ⟨rfl, rfl, rfl, by decide +kernel, rfl, by decide +kernel, by decide +kernel⟩
abbrev s__law_cell : Stmt := topS 29
abbrev N__law_cell : List Str := ["script", "k", "cell"]
theorem sc__law_cell : FnScope N__law_cell ["script", "k"] (defScope s__law_cell) := ⟨rfl, rfl, rfl, by decide +kernel, rfl, by decide +kernel, by decide +kernel⟩
abbrev s__law_take : Stmt := topS 30
abbrev N__law_take : List Str := ["state", "m", "x"]
theorem sc__law_take : FnScope N__law_take ["state", "m"] (defScope s__law_take) := ⟨rfl, rfl, rfl, by decide +kernel, rfl, by decide +kernel, by decide +kernel⟩
abbrev s__law_big : Stmt := topS 31
abbrev N__law_big : List Str := ["script", "at", "count", "found", "k"]
theorem sc__law_big : FnScope N__law_big ["script", "at", "count"] (defScope s__law_big) := ⟨rfl, rfl, rfl, by decide +kernel, rfl, by decide +kernel, by decide +kernel⟩
abbrev s__law_divisor : Stmt := topS 32
abbrev N__law_divisor : List Str := ["one", "two", "turn"]
theorem sc__law_divisor : FnScope N__law_divisor ["one", "two"] (defScope s__law_divisor) := ⟨rfl, rfl, rfl, by decide +kernel, rfl, by decide +kernel, by decide +kernel⟩
abbrev s__law_ratio : Stmt := topS 33
abbrev N__law_ratio : List Str := ["p", "q", "divisor"]
theorem sc__law_ratio : FnScope N__law_ratio ["p", "q"] (defScope s__law_ratio) := ⟨rfl, rfl, rfl, by decide +kernel, rfl, by decide +kernel, by decide +kernel⟩
abbrev s__law_trim : Stmt := topS 34
abbrev N__law_trim : List Str := ["row"]
theorem sc__law_trim : FnScope N__law_trim ["row"] (defScope s__law_trim) := ⟨rfl, rfl, rfl, by decide +kernel, rfl, by decide +kernel, by decide +kernel⟩
abbrev s__law_is_poly : Stmt := topS 35
abbrev N__law_is_poly : List Str := ["row", "x"]
theorem sc__law_is_poly : FnScope N__law_is_poly ["row"] (defScope s__law_is_poly) := ⟨rfl, rfl, rfl, by decide +kernel, rfl, by decide +kernel, by decide +kernel⟩
abbrev s__law_poly : Stmt := topS 36
abbrev N__law_poly : List Str := ["state", "degree", "size", "count", "row", "k"]
theorem sc__law_poly : FnScope N__law_poly ["state", "degree", "size"] (defScope s__law_poly) := ⟨rfl, rfl, rfl, by decide +kernel, rfl, by decide +kernel, by decide +kernel⟩
abbrev s__law_content : Stmt := topS 37
abbrev N__law_content : List Str := ["one", "found", "x"]
theorem sc__law_content : FnScope N__law_content ["one"] (defScope s__law_content) := ⟨rfl, rfl, rfl, by decide +kernel, rfl, by decide +kernel, by decide +kernel⟩
abbrev s__law_plus : Stmt := topS 38
abbrev N__law_plus : List Str := ["one", "two"]
theorem sc__law_plus : FnScope N__law_plus ["one", "two"] (defScope s__law_plus) := ⟨rfl, rfl, rfl, by decide +kernel, rfl, by decide +kernel, by decide +kernel⟩
abbrev s__law_times : Stmt := topS 39
abbrev N__law_times : List Str := ["one", "two"]
theorem sc__law_times : FnScope N__law_times ["one", "two"] (defScope s__law_times) := ⟨rfl, rfl, rfl, by decide +kernel, rfl, by decide +kernel, by decide +kernel⟩
abbrev s__law_value : Stmt := topS 40
abbrev N__law_value : List Str := ["one", "at", "found", "number"]
theorem sc__law_value : FnScope N__law_value ["one", "at"] (defScope s__law_value) := ⟨rfl, rfl, rfl, by decide +kernel, rfl, by decide +kernel, by decide +kernel⟩
abbrev s__law_over_value : Stmt := topS 41
abbrev N__law_over_value : List Str := ["pair", "at", "found"]
theorem sc__law_over_value : FnScope N__law_over_value ["pair", "at"] (defScope s__law_over_value) := ⟨rfl, rfl, rfl, by decide +kernel, rfl, by decide +kernel, by decide +kernel⟩
abbrev s__law_is_over : Stmt := topS 42
abbrev N__law_is_over : List Str := ["pair"]
theorem sc__law_is_over : FnScope N__law_is_over ["pair"] (defScope s__law_is_over) := ⟨rfl, rfl, rfl, by decide +kernel, rfl, by decide +kernel, by decide +kernel⟩
abbrev s__law_choices : Stmt := topS 43
abbrev N__law_choices : List Str := ["n", "k", "found", "turn"]
theorem sc__law_choices : FnScope N__law_choices ["n", "k"] (defScope s__law_choices) := ⟨rfl, rfl, rfl, by decide +kernel, rfl, by decide +kernel, by decide +kernel⟩
abbrev s_law : Stmt := topS 44
abbrev N_law : List Str := ["script", "state", "points", "turn", "at", "value", "given", "told", "row", "pair", "k", "one", "numbers", "values", "n", "drawn", "back", "total", "x", "y"]
theorem sc_law : FnScope N_law ["script"] (defScope s_law) := ⟨rfl, rfl, rfl, by decide +kernel, rfl, by decide +kernel, by decide +kernel⟩
structure Top (K : PySem.W.Frag) (mg : Str → Option Value) where
  f_common_divisor : Addr
  fd_common_divisor : FuncData
  F_common_divisor : Fun K "common_divisor" "common_divisor" s_common_divisor f_common_divisor fd_common_divisor
  b_common_divisor : Binds K fd_common_divisor ["one", "two"] []
  m_common_divisor : mg "common_divisor" = some (.ref f_common_divisor)
  f_ratio : Addr
  fd_ratio : FuncData
  F_ratio : Fun K "ratio" "ratio" s_ratio f_ratio fd_ratio
  b_ratio : Binds K fd_ratio ["numerator", "denominator"] []
  m_ratio : mg "ratio" = some (.ref f_ratio)
  f_plus : Addr
  fd_plus : FuncData
  F_plus : Fun K "plus" "plus" s_plus f_plus fd_plus
  b_plus : Binds K fd_plus ["one", "two"] []
  m_plus : mg "plus" = some (.ref f_plus)
  f_minus : Addr
  fd_minus : FuncData
  F_minus : Fun K "minus" "minus" s_minus f_minus fd_minus
  b_minus : Binds K fd_minus ["one", "two"] []
  m_minus : mg "minus" = some (.ref f_minus)
  f_times_ratios : Addr
  fd_times_ratios : FuncData
  F_times_ratios : Fun K "times" "times" s_times_ratios f_times_ratios fd_times_ratios
  b_times_ratios : Binds K fd_times_ratios ["one", "two"] []
  m_times_ratios : mg "times_ratios" = some (.ref f_times_ratios)
  f_over : Addr
  fd_over : FuncData
  F_over : Fun K "over" "over" s_over f_over fd_over
  b_over : Binds K fd_over ["one", "two"] []
  m_over : mg "over" = some (.ref f_over)
  f_trimmed : Addr
  fd_trimmed : FuncData
  F_trimmed : Fun K "trimmed" "trimmed" s_trimmed f_trimmed fd_trimmed
  b_trimmed : Binds K fd_trimmed ["numbers"] []
  m_trimmed : mg "trimmed" = some (.ref f_trimmed)
  f_times_single : Addr
  fd_times_single : FuncData
  F_times_single : Fun K "times" "times" s_times_single f_times_single fd_times_single
  b_times_single : Binds K fd_times_single ["one", "two"] []
  m_times_single : mg "times_single" = some (.ref f_times_single)
  f_content : Addr
  fd_content : FuncData
  F_content : Fun K "content" "content" s_content f_content fd_content
  b_content : Binds K fd_content ["one"] []
  m_content : mg "content" = some (.ref f_content)
  f_common_bottom : Addr
  fd_common_bottom : FuncData
  F_common_bottom : Fun K "common_bottom" "common_bottom" s_common_bottom f_common_bottom fd_common_bottom
  b_common_bottom : Binds K fd_common_bottom ["numbers"] []
  m_common_bottom : mg "common_bottom" = some (.ref f_common_bottom)
  f_as_quotient : Addr
  fd_as_quotient : FuncData
  F_as_quotient : Fun K "as_quotient" "as_quotient" s_as_quotient f_as_quotient fd_as_quotient
  b_as_quotient : Binds K fd_as_quotient ["numbers"] []
  m_as_quotient : mg "as_quotient" = some (.ref f_as_quotient)
  f_row_product : Addr
  fd_row_product : FuncData
  F_row_product : Fun K "row_product" "row_product" s_row_product f_row_product fd_row_product
  b_row_product : Binds K fd_row_product ["one", "at"] []
  m_row_product : mg "row_product" = some (.ref f_row_product)
  f_row_sum : Addr
  fd_row_sum : FuncData
  F_row_sum : Fun K "row_sum" "row_sum" s_row_sum f_row_sum fd_row_sum
  b_row_sum : Binds K fd_row_sum ["one", "two", "factor"] []
  m_row_sum : mg "row_sum" = some (.ref f_row_sum)
  f_through : Addr
  fd_through : FuncData
  F_through : Fun K "through" "through" s_through f_through fd_through
  b_through : Binds K fd_through ["points"] []
  m_through : mg "through" = some (.ref f_through)
  f_differences : Addr
  fd_differences : FuncData
  F_differences : Fun K "differences" "differences" s_differences f_differences fd_differences
  b_differences : Binds K fd_differences ["row"] []
  m_differences : mg "differences" = some (.ref f_differences)
  f_value_at_integer : Addr
  fd_value_at_integer : FuncData
  F_value_at_integer : Fun K "value_at_integer" "value_at_integer" s_value_at_integer f_value_at_integer fd_value_at_integer
  b_value_at_integer : Binds K fd_value_at_integer ["one", "at"] []
  m_value_at_integer : mg "value_at_integer" = some (.ref f_value_at_integer)
  f_by_choices : Addr
  fd_by_choices : FuncData
  F_by_choices : Fun K "by_choices" "by_choices" s_by_choices f_by_choices fd_by_choices
  b_by_choices : Binds K fd_by_choices ["one"] []
  m_by_choices : mg "by_choices" = some (.ref f_by_choices)
  f_choices_poly : Addr
  fd_choices_poly : FuncData
  F_choices_poly : Fun K "choices_poly" "choices_poly" s_choices_poly f_choices_poly fd_choices_poly
  b_choices_poly : Binds K fd_choices_poly ["count"] []
  m_choices_poly : mg "choices_poly" = some (.ref f_choices_poly)
  f_from_choices : Addr
  fd_from_choices : FuncData
  F_from_choices : Fun K "from_choices" "from_choices" s_from_choices f_from_choices fd_from_choices
  b_from_choices : Binds K fd_from_choices ["row"] []
  m_from_choices : mg "from_choices" = some (.ref f_from_choices)
  f_sum_poly : Addr
  fd_sum_poly : FuncData
  F_sum_poly : Fun K "sum_poly" "sum_poly" s_sum_poly f_sum_poly fd_sum_poly
  b_sum_poly : Binds K fd_sum_poly ["one"] []
  m_sum_poly : mg "sum_poly" = some (.ref f_sum_poly)
  f__law_cell : Addr
  fd__law_cell : FuncData
  F__law_cell : Fun K "_law_cell" "_law_cell" s__law_cell f__law_cell fd__law_cell
  b__law_cell : Binds K fd__law_cell ["script", "k"] []
  m__law_cell : mg "_law_cell" = some (.ref f__law_cell)
  f__law_take : Addr
  fd__law_take : FuncData
  F__law_take : Fun K "_law_take" "_law_take" s__law_take f__law_take fd__law_take
  b__law_take : Binds K fd__law_take ["state", "m"] []
  m__law_take : mg "_law_take" = some (.ref f__law_take)
  f__law_big : Addr
  fd__law_big : FuncData
  F__law_big : Fun K "_law_big" "_law_big" s__law_big f__law_big fd__law_big
  b__law_big : Binds K fd__law_big ["script", "at", "count"] []
  m__law_big : mg "_law_big" = some (.ref f__law_big)
  f__law_divisor : Addr
  fd__law_divisor : FuncData
  F__law_divisor : Fun K "_law_divisor" "_law_divisor" s__law_divisor f__law_divisor fd__law_divisor
  b__law_divisor : Binds K fd__law_divisor ["one", "two"] []
  m__law_divisor : mg "_law_divisor" = some (.ref f__law_divisor)
  f__law_ratio : Addr
  fd__law_ratio : FuncData
  F__law_ratio : Fun K "_law_ratio" "_law_ratio" s__law_ratio f__law_ratio fd__law_ratio
  b__law_ratio : Binds K fd__law_ratio ["p", "q"] []
  m__law_ratio : mg "_law_ratio" = some (.ref f__law_ratio)
  f__law_trim : Addr
  fd__law_trim : FuncData
  F__law_trim : Fun K "_law_trim" "_law_trim" s__law_trim f__law_trim fd__law_trim
  b__law_trim : Binds K fd__law_trim ["row"] []
  m__law_trim : mg "_law_trim" = some (.ref f__law_trim)
  f__law_is_poly : Addr
  fd__law_is_poly : FuncData
  F__law_is_poly : Fun K "_law_is_poly" "_law_is_poly" s__law_is_poly f__law_is_poly fd__law_is_poly
  b__law_is_poly : Binds K fd__law_is_poly ["row"] []
  m__law_is_poly : mg "_law_is_poly" = some (.ref f__law_is_poly)
  f__law_poly : Addr
  fd__law_poly : FuncData
  F__law_poly : Fun K "_law_poly" "_law_poly" s__law_poly f__law_poly fd__law_poly
  b__law_poly : Binds K fd__law_poly ["state", "degree", "size"] []
  m__law_poly : mg "_law_poly" = some (.ref f__law_poly)
  f__law_content : Addr
  fd__law_content : FuncData
  F__law_content : Fun K "_law_content" "_law_content" s__law_content f__law_content fd__law_content
  b__law_content : Binds K fd__law_content ["one"] []
  m__law_content : mg "_law_content" = some (.ref f__law_content)
  f__law_plus : Addr
  fd__law_plus : FuncData
  F__law_plus : Fun K "_law_plus" "_law_plus" s__law_plus f__law_plus fd__law_plus
  b__law_plus : Binds K fd__law_plus ["one", "two"] []
  m__law_plus : mg "_law_plus" = some (.ref f__law_plus)
  f__law_times : Addr
  fd__law_times : FuncData
  F__law_times : Fun K "_law_times" "_law_times" s__law_times f__law_times fd__law_times
  b__law_times : Binds K fd__law_times ["one", "two"] []
  m__law_times : mg "_law_times" = some (.ref f__law_times)
  f__law_value : Addr
  fd__law_value : FuncData
  F__law_value : Fun K "_law_value" "_law_value" s__law_value f__law_value fd__law_value
  b__law_value : Binds K fd__law_value ["one", "at"] []
  m__law_value : mg "_law_value" = some (.ref f__law_value)
  f__law_over_value : Addr
  fd__law_over_value : FuncData
  F__law_over_value : Fun K "_law_over_value" "_law_over_value" s__law_over_value f__law_over_value fd__law_over_value
  b__law_over_value : Binds K fd__law_over_value ["pair", "at"] []
  m__law_over_value : mg "_law_over_value" = some (.ref f__law_over_value)
  f__law_is_over : Addr
  fd__law_is_over : FuncData
  F__law_is_over : Fun K "_law_is_over" "_law_is_over" s__law_is_over f__law_is_over fd__law_is_over
  b__law_is_over : Binds K fd__law_is_over ["pair"] []
  m__law_is_over : mg "_law_is_over" = some (.ref f__law_is_over)
  f__law_choices : Addr
  fd__law_choices : FuncData
  F__law_choices : Fun K "_law_choices" "_law_choices" s__law_choices f__law_choices fd__law_choices
  b__law_choices : Binds K fd__law_choices ["n", "k"] []
  m__law_choices : mg "_law_choices" = some (.ref f__law_choices)
  f_law : Addr
  fd_law : FuncData
  F_law : Fun K "law" "law" s_law f_law fd_law
  b_law : Binds K fd_law ["script"] []
  m_law : mg "law" = some (.ref f_law)
  z_abs : mg "abs" = none
  z_bool : mg "bool" = none
  z_enumerate : mg "enumerate" = none
  z_int : mg "int" = none
  z_isinstance : mg "isinstance" = none
  z_len : mg "len" = none
  z_list : mg "list" = none
  z_max : mg "max" = none
  z_range : mg "range" = none
  z_reversed : mg "reversed" = none
  z_sum : mg "sum" = none
  z_tuple : mg "tuple" = none
section
variable {P : Program} {w : World} {K : PySem.W.Frag} {mg : Str → Option Value} {base : Heap}
theorem ok_common_divisor (T : Top K mg) : FnOk P w K mg base CX0 1 T.f_common_divisor T.fd_common_divisor ["one", "two"] (spOf K mg sp_common_divisor) :=
  fn_ok (N := N_common_divisor) T.F_common_divisor sc_common_divisor (fun _ => rfl) k_common_divisor fun cdv A outer s₀ H E hr =>
  (show PSs _ _ (LS _ d_common_divisor) from (dss_cons (ds_par (i := 0) (j := 1) rfl sc_common_divisor.nd rfl rfl (by decide) rfl rfl (da_cons (de_abs (by rfl) T.z_abs (de_var (pv 0))) (da_cons (de_abs (by rfl) T.z_abs (de_var (pv 1))) da_nil)) (by rfl))
  (dss_cons (ds_while PassesOwn.never (dt_cmp os_gt (de_var (pv 1)) de_int (nomark _)) (dss_one (ds_par (i := 0) (j := 1) rfl sc_common_divisor.nd rfl rfl (by decide) rfl rfl (da_cons (de_var (pv 1)) (da_cons (de_op os_mod (de_var (pv 0)) (de_var (pv 1))) da_nil)) (by rfl))))
  (dss_one (ds_ret (de_var (pv 0)))))))
theorem ok_ratio (T : Top K mg) : FnOk P w K mg base CX0 2 T.f_ratio T.fd_ratio ["numerator", "denominator"] (spOf K mg sp_ratio) :=
  fn_ok (N := N_ratio) T.F_ratio sc_ratio (fun _ => rfl) k_ratio fun cdv A outer s₀ H E hr =>
  (show PSs _ _ (LS _ d_ratio) from (dss_cons (ds_if (dt_cmp (os_eq hr.units) (de_var (pv 1)) de_int (nomark _)) (dss_one ds_never) dss_nil)
  (dss_cons (ds_set (i := 2) sc_ratio.nd rfl (Or.inl rfl) (de_call (ok_common_divisor T) (hr.mono (by decide)) (by rfl) T.m_common_divisor T.F_common_divisor.kp T.b_common_divisor (da_cons (de_var (pv 0)) (da_cons (de_var (pv 1)) da_nil))))
  (dss_cons (ds_if (dt_cmp os_lt (de_var (pv 1)) de_int (nomark _)) (dss_one (ds_set (i := 2) sc_ratio.nd rfl (Or.inl rfl) (de_neg (de_var (pv 2))))) dss_nil)
  (dss_one (ds_ret (de_tup (da_cons (de_op os_fdiv (de_var (pv 0)) (de_var (pv 2))) (da_cons (de_op os_fdiv (de_var (pv 1)) (de_var (pv 2))) da_nil)))))))))
theorem ok_plus (T : Top K mg) : FnOk P w K mg base CX0 3 T.f_plus T.fd_plus ["one", "two"] (spOf K mg sp_plus) :=
  fn_ok (N := N_plus) T.F_plus sc_plus (fun _ => rfl) k_plus fun cdv A outer s₀ H E hr =>
  (show PSs _ _ (LS _ d_plus) from (dss_one (ds_ret (de_call (ok_ratio T) (hr.mono (by decide)) (by rfl) T.m_ratio T.F_ratio.kp T.b_ratio (da_cons (de_op os_add (de_op os_mul (de_ix (de_var (pv 0)) de_int (fun _ _ => rfl)) (de_ix (de_var (pv 1)) de_int (fun _ _ => rfl))) (de_op os_mul (de_ix (de_var (pv 1)) de_int (fun _ _ => rfl)) (de_ix (de_var (pv 0)) de_int (fun _ _ => rfl)))) (da_cons (de_op os_mul (de_ix (de_var (pv 0)) de_int (fun _ _ => rfl)) (de_ix (de_var (pv 1)) de_int (fun _ _ => rfl))) da_nil))))))
theorem ok_minus (T : Top K mg) : FnOk P w K mg base CX0 3 T.f_minus T.fd_minus ["one", "two"] (spOf K mg sp_minus) :=
  fn_ok (N := N_minus) T.F_minus sc_minus (fun _ => rfl) k_minus fun cdv A outer s₀ H E hr =>
  (show PSs _ _ (LS _ d_minus) from (dss_one (ds_ret (de_call (ok_ratio T) (hr.mono (by decide)) (by rfl) T.m_ratio T.F_ratio.kp T.b_ratio (da_cons (de_op os_sub (de_op os_mul (de_ix (de_var (pv 0)) de_int (fun _ _ => rfl)) (de_ix (de_var (pv 1)) de_int (fun _ _ => rfl))) (de_op os_mul (de_ix (de_var (pv 1)) de_int (fun _ _ => rfl)) (de_ix (de_var (pv 0)) de_int (fun _ _ => rfl)))) (da_cons (de_op os_mul (de_ix (de_var (pv 0)) de_int (fun _ _ => rfl)) (de_ix (de_var (pv 1)) de_int (fun _ _ => rfl))) da_nil))))))
theorem ok_times_ratios (T : Top K mg) : FnOk P w K mg base CX0 3 T.f_times_ratios T.fd_times_ratios ["one", "two"] (spOf K mg sp_times) :=
  fn_ok (N := N_times_ratios) T.F_times_ratios sc_times_ratios (fun _ => rfl) k_times fun cdv A outer s₀ H E hr =>
  (show PSs _ _ (LS _ d_times) from (dss_one (ds_ret (de_call (ok_ratio T) (hr.mono (by decide)) (by rfl) T.m_ratio T.F_ratio.kp T.b_ratio (da_cons (de_op os_mul (de_ix (de_var (pv 0)) de_int (fun _ _ => rfl)) (de_ix (de_var (pv 1)) de_int (fun _ _ => rfl))) (da_cons (de_op os_mul (de_ix (de_var (pv 0)) de_int (fun _ _ => rfl)) (de_ix (de_var (pv 1)) de_int (fun _ _ => rfl))) da_nil))))))
theorem ok_over (T : Top K mg) : FnOk P w K mg base CX0 3 T.f_over T.fd_over ["one", "two"] (spOf K mg sp_over) :=
  fn_ok (N := N_over) T.F_over sc_over (fun _ => rfl) k_over fun cdv A outer s₀ H E hr =>
  (show PSs _ _ (LS _ d_over) from (dss_one (ds_ret (de_call (ok_ratio T) (hr.mono (by decide)) (by rfl) T.m_ratio T.F_ratio.kp T.b_ratio (da_cons (de_op os_mul (de_ix (de_var (pv 0)) de_int (fun _ _ => rfl)) (de_ix (de_var (pv 1)) de_int (fun _ _ => rfl))) (da_cons (de_op os_mul (de_ix (de_var (pv 0)) de_int (fun _ _ => rfl)) (de_ix (de_var (pv 1)) de_int (fun _ _ => rfl))) da_nil))))))
theorem ok_trimmed (T : Top K mg) : FnOk P w K mg base CX0 1 T.f_trimmed T.fd_trimmed ["numbers"] (spOf K mg sp_trimmed) :=
  fn_ok (N := N_trimmed) T.F_trimmed sc_trimmed (fun _ => rfl) k_trimmed fun cdv A outer s₀ H E hr =>
  (show PSs _ _ (LS _ d_trimmed) from (dss_cons (ds_own (i := 1) sc_trimmed.nd rfl (Or.inl rfl) (de_tlist (by rfl) T.z_list (de_var (pv 0))))
  (dss_cons (ds_while PassesOwn.never (PW.pt (dw_and (dt_cmp (os_ne hr.units) (de_var (pv 1)) (de_lst da_nil) (nomark _)) (dw_and1 (dt_cmp (os_eq hr.units) (de_ix (de_var (pv 1)) (de_neg de_int) (fun _ _ => rfl)) de_int (nomark _))))) (dss_one (ds_expr (de_pop (pv 1)))))
  (dss_one (ds_ret (de_var (pv 1)))))))
theorem ok_times_single (T : Top K mg) : FnOk P w K mg base CX0 2 T.f_times_single T.fd_times_single ["one", "two"] (spOf K mg sp_ptimes) :=
  fn_ok (N := N_times_single) T.F_times_single sc_times_single (fun _ => rfl) k_ptimes fun cdv A outer s₀ H E hr =>
  (show PSs _ _ (LS _ d_ptimes) from (dss_cons (ds_own (i := 2) sc_times_single.nd rfl (Or.inl rfl) (de_op os_mul (de_lst (da_cons de_int da_nil)) (de_max2 rfl (by rfl) T.z_max de_int (de_op os_sub (de_op os_add (de_len (by rfl) T.z_len (de_var (pv 0))) (de_len (by rfl) T.z_len (de_var (pv 1)))) de_int))))
  (dss_cons (ds_for PassesOwn.never rfl (di_enum (by rfl) T.z_enumerate (da_cons (de_var (pv 0)) da_nil)) (dg_tup rfl (dgs_cons (dg_name (pg_name (i := 3) sc_times_single.nd rfl (Or.inl rfl))) (dgs_cons (dg_name (pg_name (i := 4) sc_times_single.nd rfl (Or.inl rfl))) dgs_nil))) (dss_one (ds_for PassesOwn.never rfl (di_enum (by rfl) T.z_enumerate (da_cons (de_var (pv 1)) da_nil)) (dg_tup rfl (dgs_cons (dg_name (pg_name (i := 5) sc_times_single.nd rfl (Or.inl rfl))) (dgs_cons (dg_name (pg_name (i := 6) sc_times_single.nd rfl (Or.inl rfl))) dgs_nil))) (dss_one (ds_augS is_add (pv 2) (de_op os_add (de_var (pv 3)) (de_var (pv 5))) (de_op os_mul (de_var (pv 4)) (de_var (pv 6))))))))
  (dss_one (ds_ret (de_call (ok_trimmed T) (hr.mono (by decide)) (by rfl) T.m_trimmed T.F_trimmed.kp T.b_trimmed (da_cons (de_var (pv 2)) da_nil)))))))
theorem ok_content (T : Top K mg) : FnOk P w K mg base CX0 2 T.f_content T.fd_content ["one"] (spOf K mg sp_content) :=
  fn_ok (N := N_content) T.F_content sc_content (fun _ => rfl) k_content fun cdv A outer s₀ H E hr =>
  (show PSs _ _ (LS _ d_content) from (dss_cons (ds_set (i := 1) sc_content.nd rfl (Or.inl rfl) de_int)
  (dss_cons (ds_for PassesOwn.never rfl (di_seq (de_var (pv 0))) (dg_name (pg_name (i := 2) sc_content.nd rfl (Or.inl rfl))) (dss_one (ds_set (i := 1) sc_content.nd rfl (Or.inl rfl) (de_call (ok_common_divisor T) (hr.mono (by decide)) (by rfl) T.m_common_divisor T.F_common_divisor.kp T.b_common_divisor (da_cons (de_var (pv 1)) (da_cons (de_var (pv 2)) da_nil))))))
  (dss_one (ds_ret (de_var (pv 1)))))))
theorem ok_common_bottom (T : Top K mg) : FnOk P w K mg base CX0 2 T.f_common_bottom T.fd_common_bottom ["numbers"] (spOf K mg sp_common_bottom) :=
  fn_ok (N := N_common_bottom) T.F_common_bottom sc_common_bottom (fun _ => rfl) k_common_bottom fun cdv A outer s₀ H E hr =>
  (show PSs _ _ (LS _ d_common_bottom) from (dss_cons (ds_set (i := 1) sc_common_bottom.nd rfl (Or.inl rfl) de_int)
  (dss_cons (ds_for PassesOwn.never rfl (di_seq (de_var (pv 0))) (dg_name (pg_name (i := 2) sc_common_bottom.nd rfl (Or.inl rfl))) (dss_one (ds_set (i := 1) sc_common_bottom.nd rfl (Or.inl rfl) (de_op os_fdiv (de_op os_mul (de_var (pv 1)) (de_ix (de_var (pv 2)) de_int (fun _ _ => rfl))) (de_call (ok_common_divisor T) (hr.mono (by decide)) (by rfl) T.m_common_divisor T.F_common_divisor.kp T.b_common_divisor (da_cons (de_var (pv 1)) (da_cons (de_ix (de_var (pv 2)) de_int (fun _ _ => rfl)) da_nil)))))))
  (dss_one (ds_ret (de_var (pv 1)))))))
theorem ok_as_quotient (T : Top K mg) : FnOk P w K mg base CX0 3 T.f_as_quotient T.fd_as_quotient ["numbers"] (spOf K mg sp_as_quotient) :=
  fn_ok (N := N_as_quotient) T.F_as_quotient sc_as_quotient (fun _ => rfl) k_as_quotient fun cdv A outer s₀ H E hr =>
  (show PSs _ _ (LS _ d_as_quotient) from (dss_cons (ds_set (i := 1) sc_as_quotient.nd rfl (Or.inr rfl) (de_call (ok_common_bottom T) (hr.mono (by decide)) (by rfl) T.m_common_bottom T.F_common_bottom.kp T.b_common_bottom (da_cons (de_var (pv 0)) da_nil)))
  (dss_cons (ds_set (i := 2) sc_as_quotient.nd rfl (Or.inl rfl) (de_call (ok_trimmed T) (hr.mono (by decide)) (by rfl) T.m_trimmed T.F_trimmed.kp T.b_trimmed (da_cons (de_lc rfl sc_as_quotient.nd (di_seq (de_var (pv 0))) (blkOk_by (own := [("number", 4)]) (N := N_as_quotient) (sc := defScope s_as_quotient) (by decide +kernel)) (by first | exact List.mem_cons_self | (refine ⟨?_, ?_⟩ <;> simp) | (refine ⟨?_, ?_, ?_⟩ <;> simp)) (fun _ _ _ _ _ => (pg_name (i := 4) sc_as_quotient.nd rfl (Or.inl rfl))) (fun _ _ _ _ _ => dts_nil) (fun _ _ _ _ _ => (de_op os_mul (de_ix (de_var (pv 4)) de_int (fun _ _ => rfl)) (de_op os_fdiv (de_var (pv 1)) (de_ix (de_var (pv 4)) de_int (fun _ _ => rfl))))) (own := [("number", 4)]) (g := CT.one 4)) da_nil)))
  (dss_cons (ds_set (i := 3) sc_as_quotient.nd rfl (Or.inr rfl) (de_call (ok_common_divisor T) (hr.mono (by decide)) (by rfl) T.m_common_divisor T.F_common_divisor.kp T.b_common_divisor (da_cons (de_call (ok_content T) (hr.mono (by decide)) (by rfl) T.m_content T.F_content.kp T.b_content (da_cons (de_var (pv 2)) da_nil)) (da_cons (de_var (pv 1)) da_nil))))
  (dss_one (ds_ret (de_tup (da_cons (de_lc rfl sc_as_quotient.nd (di_seq (de_var (pv 2))) (blkOk_by (own := [("number", 4)]) (N := N_as_quotient) (sc := defScope s_as_quotient) (by decide +kernel)) (by first | exact List.mem_cons_self | (refine ⟨?_, ?_⟩ <;> simp) | (refine ⟨?_, ?_, ?_⟩ <;> simp)) (fun _ _ _ _ _ => (pg_name (i := 4) sc_as_quotient.nd rfl (Or.inl rfl))) (fun _ _ _ _ _ => dts_nil) (fun _ _ _ _ _ => (de_op os_fdiv (de_var (pv 4)) (de_var (pv 3)))) (own := [("number", 4)]) (g := CT.one 4)) (da_cons (de_op os_fdiv (de_var (pv 1)) (de_var (pv 3))) da_nil)))))))))
theorem ok_row_product (T : Top K mg) : FnOk P w K mg base CX0 4 T.f_row_product T.fd_row_product ["one", "at"] (spOf K mg sp_row_product) :=
  fn_ok (N := N_row_product) T.F_row_product sc_row_product (fun _ => rfl) k_row_product fun cdv A outer s₀ H E hr =>
  (show PSs _ _ (LS _ d_row_product) from (dss_cons (ds_own (i := 2) sc_row_product.nd rfl (Or.inl rfl) (de_op os_add (de_lst (da_cons (de_tup (da_cons de_int (da_cons de_int da_nil))) da_nil)) (de_tlist (by rfl) T.z_list (de_var (pv 0)))))
  (dss_cons (ds_for PassesOwn.never rfl (di_enum (by rfl) T.z_enumerate (da_cons (de_var (pv 0)) da_nil)) (dg_tup rfl (dgs_cons (dg_name (pg_name (i := 3) sc_row_product.nd rfl (Or.inl rfl))) (dgs_cons (dg_name (pg_name (i := 4) sc_row_product.nd rfl (Or.inl rfl))) dgs_nil))) (dss_one (ds_store (de_call (ok_minus T) (hr.mono (by decide)) (by rfl) T.m_minus T.F_minus.kp T.b_minus (da_cons (de_ix (de_var (pv 2)) (de_var (pv 3)) (fun _ _ => rfl)) (da_cons (de_call (ok_times_ratios T) (hr.mono (by decide)) (by rfl) T.m_times_ratios T.F_times_ratios.kp T.b_times_ratios (da_cons (de_var (pv 4)) (da_cons (de_var (pv 1)) da_nil))) da_nil))) (pv 2) (de_var (pv 3)))))
  (dss_one (ds_ret (de_var (pv 2)))))))
theorem ok_row_sum (T : Top K mg) : FnOk P w K mg base CX0 4 T.f_row_sum T.fd_row_sum ["one", "two", "factor"] (spOf K mg sp_row_sum) :=
  fn_ok (N := N_row_sum) T.F_row_sum sc_row_sum (fun _ => rfl) k_row_sum fun cdv A outer s₀ H E hr =>
  (show PSs _ _ (LS _ d_row_sum) from (dss_cons (ds_own (i := 3) sc_row_sum.nd rfl (Or.inl rfl) (de_op os_add (de_tlist (by rfl) T.z_list (de_var (pv 0))) (de_op os_mul (de_lst (da_cons (de_tup (da_cons de_int (da_cons de_int da_nil))) da_nil)) (de_max2 rfl (by rfl) T.z_max de_int (de_op os_sub (de_len (by rfl) T.z_len (de_var (pv 1))) (de_len (by rfl) T.z_len (de_var (pv 0))))))))
  (dss_cons (ds_for PassesOwn.never rfl (di_enum (by rfl) T.z_enumerate (da_cons (de_var (pv 1)) da_nil)) (dg_tup rfl (dgs_cons (dg_name (pg_name (i := 4) sc_row_sum.nd rfl (Or.inl rfl))) (dgs_cons (dg_name (pg_name (i := 5) sc_row_sum.nd rfl (Or.inl rfl))) dgs_nil))) (dss_one (ds_store (de_call (ok_plus T) (hr.mono (by decide)) (by rfl) T.m_plus T.F_plus.kp T.b_plus (da_cons (de_ix (de_var (pv 3)) (de_var (pv 4)) (fun _ _ => rfl)) (da_cons (de_call (ok_times_ratios T) (hr.mono (by decide)) (by rfl) T.m_times_ratios T.F_times_ratios.kp T.b_times_ratios (da_cons (de_var (pv 5)) (da_cons (de_var (pv 2)) da_nil))) da_nil))) (pv 3) (de_var (pv 4)))))
  (dss_one (ds_ret (de_var (pv 3)))))))
theorem ok_through (T : Top K mg) : FnOk P w K mg base CX0 5 T.f_through T.fd_through ["points"] (spOf K mg sp_through) :=
  fn_ok (N := N_through) T.F_through sc_through (fun _ => rfl) k_through fun cdv A outer s₀ H E hr =>
  (show PSs _ _ (LS _ d_through) from (dss_cons (ds_set (i := 1) sc_through.nd rfl (Or.inl rfl) (de_lst da_nil))
  (dss_cons (ds_set (i := 2) sc_through.nd rfl (Or.inl rfl) (de_lst (da_cons (de_tup (da_cons de_int (da_cons de_int da_nil))) da_nil)))
  (dss_cons (ds_setLc (i := 3) rfl sc_through.nd rfl rfl (sw_true rfl rfl rfl (by decide +kernel)) (di_seq (de_var (pv 0))) (blkOk_by (own := [("_", 9), ("value", 10)]) (N := N_through) (sc := defScope s_through) (by decide +kernel)) (by first | exact List.mem_cons_self | (refine ⟨?_, ?_⟩ <;> simp) | (refine ⟨?_, ?_, ?_⟩ <;> simp)) (fun _ _ _ _ _ => (pg_tup rfl (pgs_cons (pg_name (i := 9) sc_through.nd rfl (Or.inl rfl)) (pgs_cons (pg_name (i := 10) sc_through.nd rfl (Or.inl rfl)) pgs_nil)))) (fun _ _ _ _ _ => dts_nil) (fun _ _ _ _ _ => (de_var (pv 10))) (own := [("_", 9), ("value", 10)]) (g := CT.two 9 10))
  (dss_cons (ds_for PassesOwn.never rfl (di_enum (by rfl) T.z_enumerate (da_cons (de_var (pv 0)) da_nil)) (dg_tup rfl (dgs_cons (dg_name (pg_name (i := 4) sc_through.nd rfl (Or.inl rfl))) (dgs_cons (dg_name (pg_name (i := 5) sc_through.nd rfl (Or.inl rfl))) dgs_nil))) (dss_cons (ds_set (i := 1) sc_through.nd rfl (Or.inl rfl) (de_call (ok_row_sum T) (hr.mono (by decide)) (by rfl) T.m_row_sum T.F_row_sum.kp T.b_row_sum (da_cons (de_var (pv 1)) (da_cons (de_var (pv 2)) (da_cons (de_ix (de_var (pv 3)) de_int (fun _ _ => rfl)) da_nil)))))
  (dss_cons (ds_set (i := 2) sc_through.nd rfl (Or.inl rfl) (de_call (ok_row_product T) (hr.mono (by decide)) (by rfl) T.m_row_product T.F_row_product.kp T.b_row_product (da_cons (de_var (pv 2)) (da_cons (de_ix (de_var (pv 5)) de_int (fun _ _ => rfl)) da_nil))))
  (dss_cons (ds_own (i := 6) sc_through.nd rfl (Or.inl rfl) (de_lst da_nil))
  (dss_cons (ds_for PassesOwn.never rfl (di_range2 (by rfl) T.z_range (da_cons de_int (da_cons (de_len (by rfl) T.z_len (de_var (pv 3))) da_nil))) (dg_name (pg_name (i := 7) sc_through.nd rfl (Or.inl rfl))) (dss_cons (ds_set (i := 8) sc_through.nd rfl (Or.inl rfl) (de_call (ok_minus T) (hr.mono (by decide)) (by rfl) T.m_minus T.F_minus.kp T.b_minus (da_cons (de_ix (de_ix (de_var (pv 0)) (de_op os_add (de_var (pv 4)) (de_var (pv 7))) (fun _ _ => rfl)) de_int (fun _ _ => rfl)) (da_cons (de_ix (de_var (pv 5)) de_int (fun _ _ => rfl)) da_nil))))
  (dss_one (ds_expr (de_app (pv 6) (de_call (ok_over T) (hr.mono (by decide)) (by rfl) T.m_over T.F_over.kp T.b_over (da_cons (de_call (ok_minus T) (hr.mono (by decide)) (by rfl) T.m_minus T.F_minus.kp T.b_minus (da_cons (de_ix (de_var (pv 3)) (de_var (pv 7)) (fun _ _ => rfl)) (da_cons (de_ix (de_var (pv 3)) de_int (fun _ _ => rfl)) da_nil))) (da_cons (de_var (pv 8)) da_nil))))))))
  (dss_one (ds_set (i := 3) sc_through.nd rfl (Or.inl rfl) (de_var (pv 6)))))))))
  (dss_one (ds_ret (de_call (ok_as_quotient T) (hr.mono (by decide)) (by rfl) T.m_as_quotient T.F_as_quotient.kp T.b_as_quotient (da_cons (de_var (pv 1)) da_nil)))))))))
theorem ok_differences (T : Top K mg) : FnOk P w K mg base CX0 1 T.f_differences T.fd_differences ["row"] (spOf K mg sp_differences) :=
  fn_ok (N := N_differences) T.F_differences sc_differences (fun _ => rfl) k_differences fun cdv A outer s₀ H E hr =>
  (show PSs _ _ (LS _ d_differences) from (dss_one (ds_ret (de_lc rfl sc_differences.nd (di_range2 (by rfl) T.z_range (da_cons de_int (da_cons (de_len (by rfl) T.z_len (de_var (pv 0))) da_nil))) (blkOk_by (own := [("place", 1)]) (N := N_differences) (sc := defScope s_differences) (by decide +kernel)) (by first | exact List.mem_cons_self | (refine ⟨?_, ?_⟩ <;> simp) | (refine ⟨?_, ?_, ?_⟩ <;> simp)) (fun _ _ _ _ _ => (pg_name (i := 1) sc_differences.nd rfl (Or.inl rfl))) (fun _ _ _ _ _ => dts_nil) (fun _ _ _ _ _ => (de_op os_sub (de_ix (de_var (pv 0)) (de_var (pv 1)) (fun _ _ => rfl)) (de_ix (de_var (pv 0)) (de_op os_sub (de_var (pv 1)) de_int) (fun _ _ => rfl)))) (own := [("place", 1)]) (g := CT.one 1)))))
theorem ok_value_at_integer (T : Top K mg) : FnOk P w K mg base CX0 1 T.f_value_at_integer T.fd_value_at_integer ["one", "at"] (spOf K mg sp_value_at_integer) :=
  fn_ok (N := N_value_at_integer) T.F_value_at_integer sc_value_at_integer (fun _ => rfl) k_value_at_integer fun cdv A outer s₀ H E hr =>
  (show PSs _ _ (LS _ d_value_at_integer) from (dss_cons (ds_set (i := 2) sc_value_at_integer.nd rfl (Or.inl rfl) de_int)
  (dss_cons (ds_for PassesOwn.never rfl (di_rev (by rfl) T.z_reversed (da_cons (de_var (pv 0)) da_nil)) (dg_name (pg_name (i := 3) sc_value_at_integer.nd rfl (Or.inl rfl))) (dss_one (ds_set (i := 2) sc_value_at_integer.nd rfl (Or.inl rfl) (de_op os_add (de_op os_mul (de_var (pv 2)) (de_var (pv 1))) (de_var (pv 3))))))
  (dss_one (ds_ret (de_var (pv 2)))))))
theorem ok_by_choices (T : Top K mg) : FnOk P w K mg base CX0 2 T.f_by_choices T.fd_by_choices ["one"] (spOf K mg sp_by_choices) :=
  fn_ok (N := N_by_choices) T.F_by_choices sc_by_choices (fun _ => rfl) k_by_choices fun cdv A outer s₀ H E hr =>
  (show PSs _ _ (LS _ d_by_choices) from (dss_cons (ds_setLc (i := 1) rfl sc_by_choices.nd rfl rfl (sw_true rfl rfl rfl (by decide +kernel)) (di_range1 (by rfl) T.z_range (da_cons (de_len (by rfl) T.z_len (de_var (pv 0))) da_nil)) (blkOk_by (own := [("at", 3)]) (N := N_by_choices) (sc := defScope s_by_choices) (by decide +kernel)) (by first | exact List.mem_cons_self | (refine ⟨?_, ?_⟩ <;> simp) | (refine ⟨?_, ?_, ?_⟩ <;> simp)) (fun _ _ _ _ _ => (pg_name (i := 3) sc_by_choices.nd rfl (Or.inl rfl))) (fun _ _ _ _ _ => dts_nil) (fun _ _ _ _ _ => (de_call (ok_value_at_integer T) (hr.mono (by decide)) (by rfl) T.m_value_at_integer T.F_value_at_integer.kp T.b_value_at_integer (da_cons (de_var (pv 0)) (da_cons (de_var (pv 3)) da_nil)))) (own := [("at", 3)]) (g := CT.one 3))
  (dss_cons (ds_own (i := 2) sc_by_choices.nd rfl (Or.inl rfl) (de_lst da_nil))
  (dss_cons (ds_while PassesOwn.never (dt_cmp (os_ne hr.units) (de_var (pv 1)) (de_lst da_nil) (nomark _)) (dss_cons (ds_expr (de_app (pv 2) (de_ix (de_var (pv 1)) de_int (fun _ _ => rfl))))
  (dss_one (ds_set (i := 1) sc_by_choices.nd rfl (Or.inl rfl) (de_call (ok_differences T) (hr.mono (by decide)) (by rfl) T.m_differences T.F_differences.kp T.b_differences (da_cons (de_var (pv 1)) da_nil))))))
  (dss_one (ds_ret (de_call (ok_trimmed T) (hr.mono (by decide)) (by rfl) T.m_trimmed T.F_trimmed.kp T.b_trimmed (da_cons (de_var (pv 2)) da_nil))))))))
theorem ok_choices_poly (T : Top K mg) : FnOk P w K mg base CX0 3 T.f_choices_poly T.fd_choices_poly ["count"] (spOf K mg sp_choices_poly) :=
  fn_ok (N := N_choices_poly) T.F_choices_poly sc_choices_poly (fun _ => rfl) k_choices_poly fun cdv A outer s₀ H E hr =>
  (show PSs _ _ (LS _ d_choices_poly) from (dss_cons (ds_set (i := 1) sc_choices_poly.nd rfl (Or.inl rfl) (de_lst (da_cons de_int da_nil)))
  (dss_cons (ds_set (i := 2) sc_choices_poly.nd rfl (Or.inl rfl) de_int)
  (dss_cons (ds_for PassesOwn.never rfl (di_range1 (by rfl) T.z_range (da_cons (de_var (pv 0)) da_nil)) (dg_name (pg_name (i := 3) sc_choices_poly.nd rfl (Or.inl rfl))) (dss_cons (ds_set (i := 1) sc_choices_poly.nd rfl (Or.inl rfl) (de_call (ok_times_single T) (hr.mono (by decide)) (by rfl) T.m_times_single T.F_times_single.kp T.b_times_single (da_cons (de_var (pv 1)) (da_cons (de_lst (da_cons (de_neg (de_var (pv 3))) (da_cons de_int da_nil))) da_nil))))
  (dss_one (ds_set (i := 2) sc_choices_poly.nd rfl (Or.inl rfl) (de_op os_mul (de_var (pv 2)) (de_op os_add (de_var (pv 3)) de_int))))))
  (dss_one (ds_ret (de_tup (da_cons (de_var (pv 1)) (da_cons (de_var (pv 2)) da_nil)))))))))
theorem ok_from_choices (T : Top K mg) : FnOk P w K mg base CX0 5 T.f_from_choices T.fd_from_choices ["row"] (spOf K mg sp_from_choices) :=
  fn_ok (N := N_from_choices) T.F_from_choices sc_from_choices (fun _ => rfl) k_from_choices fun cdv A outer s₀ H E hr =>
  (show PSs _ _ (LS _ d_from_choices) from (dss_cons (ds_set (i := 1) sc_from_choices.nd rfl (Or.inl rfl) (de_lst da_nil))
  (dss_cons (ds_for PassesOwn.never rfl (di_enum (by rfl) T.z_enumerate (da_cons (de_var (pv 0)) da_nil)) (dg_tup rfl (dgs_cons (dg_name (pg_name (i := 2) sc_from_choices.nd rfl (Or.inl rfl))) (dgs_cons (dg_name (pg_name (i := 3) sc_from_choices.nd rfl (Or.inl rfl))) dgs_nil))) (dss_cons (ds_asg (de_call (ok_choices_poly T) (hr.mono (by decide)) (by rfl) T.m_choices_poly T.F_choices_poly.kp T.b_choices_poly (da_cons (de_var (pv 2)) da_nil)) (dg_tup rfl (dgs_cons (dg_name (pg_name (i := 4) sc_from_choices.nd rfl (Or.inl rfl))) (dgs_cons (dg_name (pg_name (i := 5) sc_from_choices.nd rfl (Or.inl rfl))) dgs_nil))))
  (dss_one (ds_set (i := 1) sc_from_choices.nd rfl (Or.inl rfl) (de_call (ok_row_sum T) (hr.mono (by decide)) (by rfl) T.m_row_sum T.F_row_sum.kp T.b_row_sum (da_cons (de_var (pv 1)) (da_cons (de_lc rfl sc_from_choices.nd (di_seq (de_var (pv 4))) (blkOk_by (own := [("entry", 6)]) (N := N_from_choices) (sc := defScope s_from_choices) (by decide +kernel)) (by first | exact List.mem_cons_self | (refine ⟨?_, ?_⟩ <;> simp) | (refine ⟨?_, ?_, ?_⟩ <;> simp)) (fun _ _ _ _ _ => (pg_name (i := 6) sc_from_choices.nd rfl (Or.inl rfl))) (fun _ _ _ _ _ => dts_nil) (fun _ _ _ _ _ => (de_tup (da_cons (de_var (pv 6)) (da_cons de_int da_nil)))) (own := [("entry", 6)]) (g := CT.one 6)) (da_cons (de_call (ok_over T) (hr.mono (by decide)) (by rfl) T.m_over T.F_over.kp T.b_over (da_cons (de_tup (da_cons (de_var (pv 3)) (da_cons de_int da_nil))) (da_cons (de_tup (da_cons (de_var (pv 5)) (da_cons de_int da_nil))) da_nil))) da_nil))))))))
  (dss_one (ds_ret (de_call (ok_as_quotient T) (hr.mono (by decide)) (by rfl) T.m_as_quotient T.F_as_quotient.kp T.b_as_quotient (da_cons (de_var (pv 1)) da_nil)))))))
theorem ok_sum_poly (T : Top K mg) : FnOk P w K mg base CX0 6 T.f_sum_poly T.fd_sum_poly ["one"] (spOf K mg sp_sum_poly) :=
  fn_ok (N := N_sum_poly) T.F_sum_poly sc_sum_poly (fun _ => rfl) k_sum_poly fun cdv A outer s₀ H E hr =>
  (show PSs _ _ (LS _ d_sum_poly) from (dss_one (ds_ret (de_call (ok_from_choices T) (hr.mono (by decide)) (by rfl) T.m_from_choices T.F_from_choices.kp T.b_from_choices (da_cons (de_op os_add (de_lst (da_cons de_int da_nil)) (de_call (ok_by_choices T) (hr.mono (by decide)) (by rfl) T.m_by_choices T.F_by_choices.kp T.b_by_choices (da_cons (de_var (pv 0)) da_nil))) da_nil)))))
theorem ok__law_cell (T : Top K mg) : FnOk P w K mg base CX0 1 T.f__law_cell T.fd__law_cell ["script", "k"] (spOf K mg sp__law_cell) :=
  fn_ok (N := N__law_cell) T.F__law_cell sc__law_cell (fun _ => rfl) k__law_cell fun cdv A outer s₀ H E hr =>
  (show PSs _ _ (LS _ d__law_cell) from (dss_cons (ds_if (PW.pt (dw_and (dt_cmp os_lt (de_var (pv 1)) (de_len (by rfl) T.z_len (de_var (pv 0))) (nomark _)) (dw_and1 (dt_cmp os_ge (de_ix (de_var (pv 0)) (de_var (pv 1)) (fun _ _ => rfl)) (de_op os_pow de_int de_int) (nomark _))))) (dss_one (ds_ret (de_ix (de_var (pv 0)) (de_var (pv 1)) (fun _ _ => rfl)))) dss_nil)
  (dss_cons (ds_set (i := 2) sc__law_cell.nd rfl (Or.inl rfl) (de_op os_add (de_op os_mul de_int (de_var (pv 1))) de_int))
  (dss_cons (ds_if (dt_cmp os_gt (de_len (by rfl) T.z_len (de_var (pv 0))) de_int (nomark _)) (dss_one (ds_set (i := 2) sc__law_cell.nd rfl (Or.inl rfl) (de_op os_add (de_var (pv 2)) (de_op os_mul de_int (de_ix (de_var (pv 0)) (de_op os_mod (de_tint (by rfl) T.z_int (de_var (pv 1))) (de_len (by rfl) T.z_len (de_var (pv 0)))) (fun _ _ => rfl)))))) dss_nil)
  (dss_cons (ds_set (i := 2) sc__law_cell.nd rfl (Or.inl rfl) (de_op os_mod (de_tint (by rfl) T.z_int (de_op os_add (de_op os_mul (de_var (pv 2)) de_int) (de_op os_mul de_int (de_var (pv 1))))) de_int))
  (dss_one (ds_ret (de_op os_mod (de_tint (by rfl) T.z_int (de_op os_add (de_op os_mul (de_var (pv 2)) de_int) (de_op os_mul de_int (de_op os_fdiv (de_var (pv 2)) de_int)))) de_int))))))))
theorem ok__law_take (T : Top K mg) : FnOk P w K mg base CX0 1 T.f__law_take T.fd__law_take ["state", "m"] (spOfS K mg sp__law_take) :=
  fn_okS (N := N__law_take) T.F__law_take sc__law_take (fun _ => rfl) k__law_take fun cdv A outer s₀ H E hr =>
  (show PSs _ _ (LS _ d__law_take) from (dss_cons (ds_set (i := 2) sc__law_take.nd rfl (Or.inl rfl) (de_op os_mod (de_tint (by rfl) T.z_int (de_ix (de_var (pv 0)) de_int (fun _ _ => rfl))) (de_var (pv 1))))
  (dss_cons (ds_store (de_tint (by rfl) T.z_int (de_op os_fdiv (de_ix (de_var (pv 0)) de_int (fun _ _ => rfl)) (de_var (pv 1)))) (pv 0) de_int)
  (dss_one (ds_ret (de_var (pv 2)))))))
theorem ok__law_big (T : Top K mg) : FnOk P w K mg base CX0 2 T.f__law_big T.fd__law_big ["script", "at", "count"] (spOf K mg sp__law_big) :=
  fn_ok (N := N__law_big) T.F__law_big sc__law_big (fun _ => rfl) k__law_big fun cdv A outer s₀ H E hr =>
  (show PSs _ _ (LS _ d__law_big) from (dss_cons (ds_set (i := 3) sc__law_big.nd rfl (Or.inl rfl) de_int)
  (dss_cons (ds_for PassesOwn.never rfl (di_range1 (by rfl) T.z_range (da_cons (de_var (pv 2)) da_nil)) (dg_name (pg_name (i := 4) sc__law_big.nd rfl (Or.inl rfl))) (dss_one (ds_set (i := 3) sc__law_big.nd rfl (Or.inl rfl) (de_op os_add (de_op os_mul (de_var (pv 3)) de_int) (de_call (ok__law_cell T) (hr.mono (by decide)) (by rfl) T.m__law_cell T.F__law_cell.kp T.b__law_cell (da_cons (de_var (pv 0)) (da_cons (de_op os_add (de_var (pv 1)) (de_var (pv 4))) da_nil)))))))
  (dss_one (ds_ret (de_lst (da_cons (de_var (pv 3)) da_nil)))))))
theorem ok__law_divisor (T : Top K mg) : FnOk P w K mg base CX0 1 T.f__law_divisor T.fd__law_divisor ["one", "two"] (spOf K mg sp__law_divisor) :=
  fn_ok (N := N__law_divisor) T.F__law_divisor sc__law_divisor (fun _ => rfl) k__law_divisor fun cdv A outer s₀ H E hr =>
  (show PSs _ _ (LS _ d__law_divisor) from (dss_cons (ds_set (i := 0) sc__law_divisor.nd rfl (Or.inl rfl) (de_abs (by rfl) T.z_abs (de_var (pv 0))))
  (dss_cons (ds_set (i := 1) sc__law_divisor.nd rfl (Or.inl rfl) (de_abs (by rfl) T.z_abs (de_var (pv 1))))
  (dss_cons (ds_for PassesOwn.never rfl (di_range1 (by rfl) T.z_range (da_cons de_int da_nil)) (dg_name (pg_name (i := 2) sc__law_divisor.nd rfl (Or.inl rfl))) (dss_cons (ds_if (dt_cmp (os_eq hr.units) (de_var (pv 1)) de_int (nomark _)) (dss_one ds_brk) dss_nil)
  (dss_one (ds_par (i := 0) (j := 1) rfl sc__law_divisor.nd rfl rfl (by decide) rfl rfl (da_cons (de_var (pv 1)) (da_cons (de_op os_mod (de_tint (by rfl) T.z_int (de_var (pv 0))) (de_var (pv 1))) da_nil)) (by rfl)))))
  (dss_one (ds_ret (de_var (pv 0))))))))
theorem ok__law_ratio (T : Top K mg) : FnOk P w K mg base CX0 2 T.f__law_ratio T.fd__law_ratio ["p", "q"] (spOf K mg sp__law_ratio) :=
  fn_ok (N := N__law_ratio) T.F__law_ratio sc__law_ratio (fun _ => rfl) k__law_ratio fun cdv A outer s₀ H E hr =>
  (show PSs _ _ (LS _ d__law_ratio) from (dss_cons (ds_set (i := 2) sc__law_ratio.nd rfl (Or.inl rfl) (de_call (ok__law_divisor T) (hr.mono (by decide)) (by rfl) T.m__law_divisor T.F__law_divisor.kp T.b__law_divisor (da_cons (de_var (pv 0)) (da_cons (de_var (pv 1)) da_nil))))
  (dss_cons (ds_if (dt_cmp os_lt (de_var (pv 1)) de_int (nomark _)) (dss_one (ds_set (i := 2) sc__law_ratio.nd rfl (Or.inl rfl) (de_neg (de_var (pv 2))))) dss_nil)
  (dss_one (ds_ret (de_tup (da_cons (de_tint (by rfl) T.z_int (de_op os_fdiv (de_var (pv 0)) (de_var (pv 2)))) (da_cons (de_tint (by rfl) T.z_int (de_op os_fdiv (de_var (pv 1)) (de_var (pv 2)))) da_nil))))))))
theorem ok__law_trim (T : Top K mg) : FnOk P w K mg base CX0 1 T.f__law_trim T.fd__law_trim ["row"] (spOf K mg sp__law_trim) :=
  fn_ok (N := N__law_trim) T.F__law_trim sc__law_trim (fun _ => rfl) k__law_trim fun cdv A outer s₀ H E hr =>
  (show PSs _ _ (LS _ d__law_trim) from (dss_cons (ds_own (i := 0) sc__law_trim.nd rfl (Or.inl rfl) (de_tlist (by rfl) T.z_list (de_var (pv 0))))
  (dss_cons (ds_while PassesOwn.never (PW.pt (dw_and (dt_cmp (os_ne hr.units) (de_var (pv 0)) (de_lst da_nil) (nomark _)) (dw_and1 (dt_cmp (os_eq hr.units) (de_ix (de_var (pv 0)) (de_neg de_int) (fun _ _ => rfl)) de_int (nomark _))))) (dss_one (ds_expr (de_pop (pv 0)))))
  (dss_one (ds_ret (de_var (pv 0)))))))
theorem ok__law_is_poly (T : Top K mg) : FnOk P w K mg base CX0 1 T.f__law_is_poly T.fd__law_is_poly ["row"] (spOf K mg sp__law_is_poly) :=
  fn_ok (N := N__law_is_poly) T.F__law_is_poly sc__law_is_poly (fun _ => rfl) k__law_is_poly fun cdv A outer s₀ H E hr =>
  (show PSs _ _ (LS _ d__law_is_poly) from (dss_cons (ds_if (PW.pt (dw_or (dt_not (dt_tru (de_isi .list (by rfl) T.z_isinstance (de_var (pv 0)) (pe_bltn (v := .ty "list") (by rfl) T.z_list (by decide +kernel) rfl)))) (dw_or1 (dt_cmp (os_ne hr.units) (de_lc rfl sc__law_is_poly.nd (di_seq (de_var (pv 0))) (blkOk_by (own := [("x", 1)]) (N := N__law_is_poly) (sc := defScope s__law_is_poly) (by decide +kernel)) (by first | exact List.mem_cons_self | (refine ⟨?_, ?_⟩ <;> simp) | (refine ⟨?_, ?_, ?_⟩ <;> simp)) (fun _ _ _ _ _ => (pg_name (i := 1) sc__law_is_poly.nd rfl (Or.inl rfl))) (fun _ _ _ _ _ => (dts_one (PW.pt (dw_or (dt_not (dt_tru (de_isi .int (by rfl) T.z_isinstance (de_var (pv 1)) (pe_bltn (v := .ty "int") (by rfl) T.z_int (by decide +kernel) rfl)))) (dw_or1 (dt_tru (de_isi .bool (by rfl) T.z_isinstance (de_var (pv 1)) (pe_bltn (v := .ty "bool") (by rfl) T.z_bool (by decide +kernel) rfl)))))))) (fun _ _ _ _ _ => (de_var (pv 1))) (own := [("x", 1)]) (g := CT.one 1)) (de_lst da_nil) (nomark _))))) (dss_one (ds_ret de_bl)) dss_nil)
  (dss_one (ds_ret (de_or (de_cmp (os_eq hr.units) (de_var (pv 0)) (de_lst da_nil) (nomark _)) (de_one (de_cmp (os_ne hr.units) (de_ix (de_var (pv 0)) (de_neg de_int) (fun _ _ => rfl)) de_int (nomark _))))))))
theorem ok__law_poly (T : Top K mg) : FnOk P w K mg base CX0 2 T.f__law_poly T.fd__law_poly ["state", "degree", "size"] (spOfS K mg sp__law_poly) :=
  fn_okS (N := N__law_poly) T.F__law_poly sc__law_poly (fun _ => rfl) k__law_poly fun cdv A outer s₀ H E hr =>
  (show PSs _ _ (LS _ d__law_poly) from (dss_cons (ds_set (i := 3) sc__law_poly.nd rfl (Or.inl rfl) (de_callS (ok__law_take T) (hr.mono (by decide)) (by rfl) T.m__law_take T.F__law_take.kp T.b__law_take (pv 0) (da_cons (de_op os_add (de_var (pv 1)) de_int) da_nil)))
  (dss_cons (ds_setLc (i := 4) rfl sc__law_poly.nd rfl rfl (sw_true rfl rfl rfl (by decide +kernel)) (di_range1 (by rfl) T.z_range (da_cons (de_var (pv 3)) da_nil)) (blkOk_by (own := [("k", 5)]) (N := N__law_poly) (sc := defScope s__law_poly) (by decide +kernel)) (by first | exact List.mem_cons_self | (refine ⟨?_, ?_⟩ <;> simp) | (refine ⟨?_, ?_, ?_⟩ <;> simp)) (fun _ _ _ _ _ => (pg_name (i := 5) sc__law_poly.nd rfl (Or.inl rfl))) (fun _ _ _ _ _ => dts_nil) (fun _ _ _ _ _ => (de_op os_sub (de_callS (ok__law_take T) (hr.mono (by decide)) (by rfl) T.m__law_take T.F__law_take.kp T.b__law_take (pv 0) (da_cons (de_op os_add (de_op os_mul de_int (de_var (pv 2))) de_int) da_nil)) (de_var (pv 2)))) (own := [("k", 5)]) (g := CT.one 5))
  (dss_one (ds_ret (de_call (ok__law_trim T) (hr.mono (by decide)) (by rfl) T.m__law_trim T.F__law_trim.kp T.b__law_trim (da_cons (de_var (pv 4)) da_nil)))))))
theorem ok__law_content (T : Top K mg) : FnOk P w K mg base CX0 2 T.f__law_content T.fd__law_content ["one"] (spOf K mg sp__law_content) :=
  fn_ok (N := N__law_content) T.F__law_content sc__law_content (fun _ => rfl) k__law_content fun cdv A outer s₀ H E hr =>
  (show PSs _ _ (LS _ d__law_content) from (dss_cons (ds_set (i := 1) sc__law_content.nd rfl (Or.inl rfl) de_int)
  (dss_cons (ds_for PassesOwn.never rfl (di_seq (de_var (pv 0))) (dg_name (pg_name (i := 2) sc__law_content.nd rfl (Or.inl rfl))) (dss_one (ds_set (i := 1) sc__law_content.nd rfl (Or.inl rfl) (de_call (ok__law_divisor T) (hr.mono (by decide)) (by rfl) T.m__law_divisor T.F__law_divisor.kp T.b__law_divisor (da_cons (de_var (pv 1)) (da_cons (de_var (pv 2)) da_nil))))))
  (dss_one (ds_ret (de_var (pv 1)))))))
theorem ok__law_plus (T : Top K mg) : FnOk P w K mg base CX0 3 T.f__law_plus T.fd__law_plus ["one", "two"] (spOf K mg sp__law_plus5) :=
  fn_ok (N := N__law_plus) T.F__law_plus sc__law_plus (fun _ => rfl) k__law_plus5 fun cdv A outer s₀ H E hr =>
  (show PSs _ _ (LS _ d__law_plus5) from (dss_one (ds_ret (de_call (ok__law_ratio T) (hr.mono (by decide)) (by rfl) T.m__law_ratio T.F__law_ratio.kp T.b__law_ratio (da_cons (de_op os_add (de_op os_mul (de_ix (de_var (pv 0)) de_int (fun _ _ => rfl)) (de_ix (de_var (pv 1)) de_int (fun _ _ => rfl))) (de_op os_mul (de_ix (de_var (pv 1)) de_int (fun _ _ => rfl)) (de_ix (de_var (pv 0)) de_int (fun _ _ => rfl)))) (da_cons (de_op os_mul (de_ix (de_var (pv 0)) de_int (fun _ _ => rfl)) (de_ix (de_var (pv 1)) de_int (fun _ _ => rfl))) da_nil))))))
theorem ok__law_times (T : Top K mg) : FnOk P w K mg base CX0 3 T.f__law_times T.fd__law_times ["one", "two"] (spOf K mg sp__law_times5) :=
  fn_ok (N := N__law_times) T.F__law_times sc__law_times (fun _ => rfl) k__law_times5 fun cdv A outer s₀ H E hr =>
  (show PSs _ _ (LS _ d__law_times5) from (dss_one (ds_ret (de_call (ok__law_ratio T) (hr.mono (by decide)) (by rfl) T.m__law_ratio T.F__law_ratio.kp T.b__law_ratio (da_cons (de_op os_mul (de_ix (de_var (pv 0)) de_int (fun _ _ => rfl)) (de_ix (de_var (pv 1)) de_int (fun _ _ => rfl))) (da_cons (de_op os_mul (de_ix (de_var (pv 0)) de_int (fun _ _ => rfl)) (de_ix (de_var (pv 1)) de_int (fun _ _ => rfl))) da_nil))))))
theorem ok__law_value (T : Top K mg) : FnOk P w K mg base CX0 4 T.f__law_value T.fd__law_value ["one", "at"] (spOf K mg sp__law_value5) :=
  fn_ok (N := N__law_value) T.F__law_value sc__law_value (fun _ => rfl) k__law_value5 fun cdv A outer s₀ H E hr =>
  (show PSs _ _ (LS _ d__law_value5) from (dss_cons (ds_set (i := 2) sc__law_value.nd rfl (Or.inl rfl) (de_tup (da_cons de_int (da_cons de_int da_nil))))
  (dss_cons (ds_for PassesOwn.never rfl (di_rev (by rfl) T.z_reversed (da_cons (de_var (pv 0)) da_nil)) (dg_name (pg_name (i := 3) sc__law_value.nd rfl (Or.inl rfl))) (dss_one (ds_set (i := 2) sc__law_value.nd rfl (Or.inl rfl) (de_call (ok__law_plus T) (hr.mono (by decide)) (by rfl) T.m__law_plus T.F__law_plus.kp T.b__law_plus (da_cons (de_call (ok__law_times T) (hr.mono (by decide)) (by rfl) T.m__law_times T.F__law_times.kp T.b__law_times (da_cons (de_var (pv 2)) (da_cons (de_var (pv 1)) da_nil))) (da_cons (de_tup (da_cons (de_var (pv 3)) (da_cons de_int da_nil))) da_nil))))))
  (dss_one (ds_ret (de_var (pv 2)))))))
theorem ok__law_over_value (T : Top K mg) : FnOk P w K mg base CX0 5 T.f__law_over_value T.fd__law_over_value ["pair", "at"] (spOf K mg sp__law_over_value) :=
  fn_ok (N := N__law_over_value) T.F__law_over_value sc__law_over_value (fun _ => rfl) k__law_over_value fun cdv A outer s₀ H E hr =>
  (show PSs _ _ (LS _ d__law_over_value) from (dss_cons (ds_set (i := 2) sc__law_over_value.nd rfl (Or.inl rfl) (de_call (ok__law_value T) (hr.mono (by decide)) (by rfl) T.m__law_value T.F__law_value.kp T.b__law_value (da_cons (de_ix (de_var (pv 0)) de_int (fun _ _ => rfl)) (da_cons (de_var (pv 1)) da_nil))))
  (dss_one (ds_ret (de_call (ok__law_ratio T) (hr.mono (by decide)) (by rfl) T.m__law_ratio T.F__law_ratio.kp T.b__law_ratio (da_cons (de_ix (de_var (pv 2)) de_int (fun _ _ => rfl)) (da_cons (de_op os_mul (de_ix (de_var (pv 2)) de_int (fun _ _ => rfl)) (de_ix (de_var (pv 0)) de_int (fun _ _ => rfl))) da_nil)))))))
theorem ok__law_is_over (T : Top K mg) : FnOk P w K mg base CX0 3 T.f__law_is_over T.fd__law_is_over ["pair"] (spOf K mg sp__law_is_over) :=
  fn_ok (N := N__law_is_over) T.F__law_is_over sc__law_is_over (fun _ => rfl) k__law_is_over fun cdv A outer s₀ H E hr =>
  (show PSs _ _ (LS _ d__law_is_over) from (dss_cons (ds_if (PW.pt (dw_or (dt_not (dt_tru (de_isi .tuple (by rfl) T.z_isinstance (de_var (pv 0)) (pe_bltn (v := .ty "tuple") (by rfl) T.z_tuple (by decide +kernel) rfl)))) (dw_or (dt_cmp (os_ne hr.units) (de_len (by rfl) T.z_len (de_var (pv 0))) de_int (nomark _)) (dw_or (dt_not (dt_tru (de_call (ok__law_is_poly T) (hr.mono (by decide)) (by rfl) T.m__law_is_poly T.F__law_is_poly.kp T.b__law_is_poly (da_cons (de_ix (de_var (pv 0)) de_int (fun _ _ => rfl)) da_nil)))) (dw_or (dt_tru (de_isi .bool (by rfl) T.z_isinstance (de_ix (de_var (pv 0)) de_int (fun _ _ => rfl)) (pe_bltn (v := .ty "bool") (by rfl) T.z_bool (by decide +kernel) rfl))) (dw_or1 (dt_not (dt_tru (de_isi .int (by rfl) T.z_isinstance (de_ix (de_var (pv 0)) de_int (fun _ _ => rfl)) (pe_bltn (v := .ty "int") (by rfl) T.z_int (by decide +kernel) rfl)))))))))) (dss_one (ds_ret de_bl)) dss_nil)
  (dss_one (ds_ret (de_and (de_cmp os_gt (de_ix (de_var (pv 0)) de_int (fun _ _ => rfl)) de_int (nomark _)) (de_one (de_cmp (os_eq hr.units) (de_call (ok__law_divisor T) (hr.mono (by decide)) (by rfl) T.m__law_divisor T.F__law_divisor.kp T.b__law_divisor (da_cons (de_call (ok__law_content T) (hr.mono (by decide)) (by rfl) T.m__law_content T.F__law_content.kp T.b__law_content (da_cons (de_ix (de_var (pv 0)) de_int (fun _ _ => rfl)) da_nil)) (da_cons (de_ix (de_var (pv 0)) de_int (fun _ _ => rfl)) da_nil))) de_int (nomark _))))))))
theorem ok__law_choices (T : Top K mg) : FnOk P w K mg base CX0 1 T.f__law_choices T.fd__law_choices ["n", "k"] (spOf K mg sp__law_choices) :=
  fn_ok (N := N__law_choices) T.F__law_choices sc__law_choices (fun _ => rfl) k__law_choices fun cdv A outer s₀ H E hr =>
  (show PSs _ _ (LS _ d__law_choices) from (dss_cons (ds_set (i := 2) sc__law_choices.nd rfl (Or.inl rfl) de_int)
  (dss_cons (ds_for PassesOwn.never rfl (di_range1 (by rfl) T.z_range (da_cons (de_var (pv 1)) da_nil)) (dg_name (pg_name (i := 3) sc__law_choices.nd rfl (Or.inl rfl))) (dss_one (ds_set (i := 2) sc__law_choices.nd rfl (Or.inl rfl) (de_tint (by rfl) T.z_int (de_op os_fdiv (de_op os_mul (de_var (pv 2)) (de_op os_sub (de_var (pv 0)) (de_var (pv 3)))) (de_op os_add (de_var (pv 3)) de_int))))))
  (dss_one (ds_ret (de_var (pv 2)))))))
theorem ok_law (T : Top K mg) : FnOk P w K mg base CX0 7 T.f_law T.fd_law ["script"] (spOf K mg sp_law) :=
  fn_ok (N := N_law) T.F_law sc_law (fun _ => rfl) k_law fun cdv A outer s₀ H E hr =>
  (show PSs _ _ (LS _ d_law) from (dss_cons (ds_own (i := 1) sc_law.nd rfl (Or.inr rfl) (de_call (ok__law_big T) (hr.mono (by decide)) (by rfl) T.m__law_big T.F__law_big.kp T.b__law_big (da_cons (de_var (pv 0)) (da_cons de_int (da_cons de_int da_nil)))))
  (dss_cons (ds_own (i := 2) sc_law.nd rfl (Or.inl rfl) (de_lst da_nil))
  (dss_cons (ds_for PassesOwn.never rfl (di_range1 (by rfl) T.z_range (da_cons (de_callS (ok__law_take T) (hr.mono (by decide)) (by rfl) T.m__law_take T.F__law_take.kp T.b__law_take (pv 1) (da_cons de_int da_nil)) da_nil)) (dg_name (pg_name (i := 3) sc_law.nd rfl (Or.inl rfl))) (dss_cons (ds_set (i := 4) sc_law.nd rfl (Or.inl rfl) (de_call (ok__law_ratio T) (hr.mono (by decide)) (by rfl) T.m__law_ratio T.F__law_ratio.kp T.b__law_ratio (da_cons (de_op os_sub (de_callS (ok__law_take T) (hr.mono (by decide)) (by rfl) T.m__law_take T.F__law_take.kp T.b__law_take (pv 1) (da_cons de_int da_nil)) de_int) (da_cons (de_op os_add de_int (de_callS (ok__law_take T) (hr.mono (by decide)) (by rfl) T.m__law_take T.F__law_take.kp T.b__law_take (pv 1) (da_cons de_int da_nil))) da_nil))))
  (dss_cons (ds_set (i := 5) sc_law.nd rfl (Or.inl rfl) (de_call (ok__law_ratio T) (hr.mono (by decide)) (by rfl) T.m__law_ratio T.F__law_ratio.kp T.b__law_ratio (da_cons (de_op os_sub (de_callS (ok__law_take T) (hr.mono (by decide)) (by rfl) T.m__law_take T.F__law_take.kp T.b__law_take (pv 1) (da_cons de_int da_nil)) de_int) (da_cons (de_op os_add de_int (de_callS (ok__law_take T) (hr.mono (by decide)) (by rfl) T.m__law_take T.F__law_take.kp T.b__law_take (pv 1) (da_cons de_int da_nil))) da_nil))))
  (dss_one (ds_if (dt_cmp (os_ninD hr.units) (de_var (pv 4)) (de_lcO (j := 2) rfl sc_law.nd (de_var (pv 2)) (blkOk_by (own := [("x", 18), ("y", 19)]) (N := N_law) (sc := defScope s_law) (by decide +kernel)) (by first | exact List.mem_cons_self | (refine ⟨?_, ?_⟩ <;> simp) | (refine ⟨?_, ?_, ?_⟩ <;> simp)) (fun _ _ _ _ _ => (pg_tup rfl (pgs_cons (pg_name (i := 18) sc_law.nd rfl (Or.inl rfl)) (pgs_cons (pg_name (i := 19) sc_law.nd rfl (Or.inl rfl)) pgs_nil)))) (fun _ _ _ _ _ => dts_nil) (fun _ _ _ _ _ => (de_var (pv 18))) (own := [("x", 18), ("y", 19)]) (g := CT.two 18 19)) (by rfl)) (dss_one (ds_expr (de_app (pv 2) (de_tup (da_cons (de_var (pv 4)) (da_cons (de_var (pv 5)) da_nil)))))) dss_nil)))))
  (dss_cons (ds_set (i := 6) sc_law.nd rfl (Or.inl rfl) (de_tlist (by rfl) T.z_list (de_var (pv 2))))
  (dss_cons (ds_set (i := 7) sc_law.nd rfl (Or.inr rfl) (de_call (ok_through T) (hr.mono (by decide)) (by rfl) T.m_through T.F_through.kp T.b_through (da_cons (de_var (pv 6)) da_nil)))
  (dss_cons (ds_if (PW.pt (dw_or (dt_not (dt_tru (de_call (ok__law_is_over T) (hr.mono (by decide)) (by rfl) T.m__law_is_over T.F__law_is_over.kp T.b__law_is_over (da_cons (de_var (pv 7)) da_nil)))) (dw_or (dt_cmp os_gt (de_len (by rfl) T.z_len (de_ix (de_var (pv 7)) de_int (fun _ _ => rfl))) (de_len (by rfl) T.z_len (de_var (pv 2))) (nomark _)) (dw_or1 (dt_cmp (os_ne hr.units) (de_var (pv 6)) (de_var (pv 2)) (nomark _)))))) (dss_one (ds_ret de_bl)) dss_nil)
  (dss_cons (ds_if (dt_cmp (os_ne hr.units) (de_lc rfl sc_law.nd (di_seq (de_var (pv 2))) (blkOk_by (own := [("x", 18), ("y", 19)]) (N := N_law) (sc := defScope s_law) (by decide +kernel)) (by first | exact List.mem_cons_self | (refine ⟨?_, ?_⟩ <;> simp) | (refine ⟨?_, ?_, ?_⟩ <;> simp)) (fun _ _ _ _ _ => (pg_tup rfl (pgs_cons (pg_name (i := 18) sc_law.nd rfl (Or.inl rfl)) (pgs_cons (pg_name (i := 19) sc_law.nd rfl (Or.inl rfl)) pgs_nil)))) (fun _ _ _ _ _ => (dts_one (dt_cmp (os_ne hr.units) (de_call (ok__law_over_value T) (hr.mono (by decide)) (by rfl) T.m__law_over_value T.F__law_over_value.kp T.b__law_over_value (da_cons (de_var (pv 7)) (da_cons (de_var (pv 18)) da_nil))) (de_var (pv 19)) (nomark _)))) (fun _ _ _ _ _ => (de_var (pv 18))) (own := [("x", 18), ("y", 19)]) (g := CT.two 18 19)) (de_lst da_nil) (nomark _)) (dss_one (ds_ret de_bl)) dss_nil)
  (dss_cons (ds_set (i := 8) sc_law.nd rfl (Or.inl rfl) (de_op os_add (de_lc rfl sc_law.nd (di_range1 (by rfl) T.z_range (da_cons (de_callS (ok__law_take T) (hr.mono (by decide)) (by rfl) T.m__law_take T.F__law_take.kp T.b__law_take (pv 1) (da_cons de_int da_nil)) da_nil)) (blkOk_by (own := [("k", 10)]) (N := N_law) (sc := defScope s_law) (by decide +kernel)) (by first | exact List.mem_cons_self | (refine ⟨?_, ?_⟩ <;> simp) | (refine ⟨?_, ?_, ?_⟩ <;> simp)) (fun _ _ _ _ _ => (pg_name (i := 10) sc_law.nd rfl (Or.inl rfl))) (fun _ _ _ _ _ => dts_nil) (fun _ _ _ _ _ => (de_call (ok__law_ratio T) (hr.mono (by decide)) (by rfl) T.m__law_ratio T.F__law_ratio.kp T.b__law_ratio (da_cons (de_op os_sub (de_callS (ok__law_take T) (hr.mono (by decide)) (by rfl) T.m__law_take T.F__law_take.kp T.b__law_take (pv 1) (da_cons de_int da_nil)) de_int) (da_cons (de_op os_add de_int (de_callS (ok__law_take T) (hr.mono (by decide)) (by rfl) T.m__law_take T.F__law_take.kp T.b__law_take (pv 1) (da_cons de_int da_nil))) da_nil)))) (own := [("k", 10)]) (g := CT.one 10)) (de_op os_mul (de_lst (da_cons (de_tup (da_cons de_int (da_cons de_int da_nil))) da_nil)) (de_callS (ok__law_take T) (hr.mono (by decide)) (by rfl) T.m__law_take T.F__law_take.kp T.b__law_take (pv 1) (da_cons de_int da_nil)))))
  (dss_cons (ds_set (i := 9) sc_law.nd rfl (Or.inl rfl) (de_call (ok_as_quotient T) (hr.mono (by decide)) (by rfl) T.m_as_quotient T.F_as_quotient.kp T.b_as_quotient (da_cons (de_tlist (by rfl) T.z_list (de_var (pv 8))) da_nil)))
  (dss_cons (ds_if (PW.pt (dw_or (dt_not (dt_tru (de_call (ok__law_is_over T) (hr.mono (by decide)) (by rfl) T.m__law_is_over T.F__law_is_over.kp T.b__law_is_over (da_cons (de_var (pv 9)) da_nil)))) (dw_or1 (dt_cmp os_gt (de_len (by rfl) T.z_len (de_ix (de_var (pv 9)) de_int (fun _ _ => rfl))) (de_len (by rfl) T.z_len (de_var (pv 8))) (nomark _))))) (dss_one (ds_ret de_bl)) dss_nil)
  (dss_cons (ds_for PassesOwn.never rfl (di_range1 (by rfl) T.z_range (da_cons (de_len (by rfl) T.z_len (de_var (pv 8))) da_nil)) (dg_name (pg_name (i := 10) sc_law.nd rfl (Or.inl rfl))) (dss_one (ds_if (dt_cmp (os_ne hr.units) (de_call (ok__law_ratio T) (hr.mono (by decide)) (by rfl) T.m__law_ratio T.F__law_ratio.kp T.b__law_ratio (da_cons (de_if (dt_cmp os_lt (de_var (pv 10)) (de_len (by rfl) T.z_len (de_ix (de_var (pv 9)) de_int (fun _ _ => rfl))) (nomark _)) (de_ix (de_ix (de_var (pv 9)) de_int (fun _ _ => rfl)) (de_var (pv 10)) (fun _ _ => rfl)) de_int) (da_cons (de_ix (de_var (pv 9)) de_int (fun _ _ => rfl)) da_nil))) (de_ix (de_var (pv 8)) (de_var (pv 10)) (fun _ _ => rfl)) (nomark _)) (dss_one (ds_ret de_bl)) dss_nil)))
  (dss_cons (ds_set (i := 11) sc_law.nd rfl (Or.inr rfl) (de_callS (ok__law_poly T) (hr.mono (by decide)) (by rfl) T.m__law_poly T.F__law_poly.kp T.b__law_poly (pv 1) (da_cons (de_if (dt_cmp (os_eq hr.units) (de_callS (ok__law_take T) (hr.mono (by decide)) (by rfl) T.m__law_take T.F__law_take.kp T.b__law_take (pv 1) (da_cons de_int da_nil)) de_int (nomark _)) de_int de_int) (da_cons de_int da_nil))))
  (dss_cons (ds_set (i := 12) sc_law.nd rfl (Or.inr rfl) (de_call (ok_by_choices T) (hr.mono (by decide)) (by rfl) T.m_by_choices T.F_by_choices.kp T.b_by_choices (da_cons (de_tlist (by rfl) T.z_list (de_var (pv 11))) da_nil)))
  (dss_cons (ds_if (PW.pt (dw_or (dt_not (dt_tru (de_call (ok__law_is_poly T) (hr.mono (by decide)) (by rfl) T.m__law_is_poly T.F__law_is_poly.kp T.b__law_is_poly (da_cons (de_var (pv 12)) da_nil)))) (dw_or1 (dt_cmp (os_ne hr.units) (de_len (by rfl) T.z_len (de_var (pv 12))) (de_len (by rfl) T.z_len (de_var (pv 11))) (nomark _))))) (dss_one (ds_ret de_bl)) dss_nil)
  (dss_cons (ds_set (i := 13) sc_law.nd rfl (Or.inr rfl) (de_lc rfl sc_law.nd (di_range1 (by rfl) T.z_range (da_cons (de_op os_add (de_len (by rfl) T.z_len (de_var (pv 11))) de_int) da_nil)) (blkOk_by (own := [("n", 14)]) (N := N_law) (sc := defScope s_law) (by decide +kernel)) (by first | exact List.mem_cons_self | (refine ⟨?_, ?_⟩ <;> simp) | (refine ⟨?_, ?_, ?_⟩ <;> simp)) (fun _ _ _ _ _ => (pg_name (i := 14) sc_law.nd rfl (Or.inl rfl))) (fun _ _ _ _ _ => dts_nil) (fun _ _ _ _ _ => (de_ix (de_call (ok__law_value T) (hr.mono (by decide)) (by rfl) T.m__law_value T.F__law_value.kp T.b__law_value (da_cons (de_var (pv 11)) (da_cons (de_tup (da_cons (de_var (pv 14)) (da_cons de_int da_nil))) da_nil))) de_int (fun _ _ => rfl))) (own := [("n", 14)]) (g := CT.one 14)))
  (dss_cons (ds_for PassesOwn.never rfl (di_range1 (by rfl) T.z_range (da_cons (de_len (by rfl) T.z_len (de_var (pv 13))) da_nil)) (dg_name (pg_name (i := 14) sc_law.nd rfl (Or.inr rfl))) (dss_one (ds_if (dt_cmp (os_ne hr.units) (de_ix (de_var (pv 13)) (de_var (pv 14)) (fun _ _ => rfl)) (de_sum rfl (by rfl) T.z_sum (de_lc rfl sc_law.nd (di_range1 (by rfl) T.z_range (da_cons (de_len (by rfl) T.z_len (de_var (pv 12))) da_nil)) (blkOk_by (own := [("k", 10)]) (N := N_law) (sc := defScope s_law) (by decide +kernel)) (by first | exact List.mem_cons_self | (refine ⟨?_, ?_⟩ <;> simp) | (refine ⟨?_, ?_, ?_⟩ <;> simp)) (fun _ _ _ _ _ => (pg_name (i := 10) sc_law.nd rfl (Or.inl rfl))) (fun _ _ _ _ _ => dts_nil) (fun _ _ _ _ _ => (de_op os_mul (de_ix (de_var (pv 12)) (de_var (pv 10)) (fun _ _ => rfl)) (de_call (ok__law_choices T) (hr.mono (by decide)) (by rfl) T.m__law_choices T.F__law_choices.kp T.b__law_choices (da_cons (de_var (pv 14)) (da_cons (de_var (pv 10)) da_nil))))) (own := [("k", 10)]) (g := CT.one 10))) (nomark _)) (dss_one (ds_ret de_bl)) dss_nil)))
  (dss_cons (ds_if (PW.pt (dw_or (dt_cmp (os_ne hr.units) (de_call (ok_from_choices T) (hr.mono (by decide)) (by rfl) T.m_from_choices T.F_from_choices.kp T.b_from_choices (da_cons (de_tlist (by rfl) T.z_list (de_var (pv 12))) da_nil)) (de_tup (da_cons (de_var (pv 11)) (da_cons de_int da_nil))) (nomark _)) (dw_or1 (dt_cmp (os_ne hr.units) (de_call (ok_differences T) (hr.mono (by decide)) (by rfl) T.m_differences T.F_differences.kp T.b_differences (da_cons (de_tlist (by rfl) T.z_list (de_var (pv 13))) da_nil)) (de_lc rfl sc_law.nd (di_range2 (by rfl) T.z_range (da_cons de_int (da_cons (de_len (by rfl) T.z_len (de_var (pv 13))) da_nil))) (blkOk_by (own := [("k", 10)]) (N := N_law) (sc := defScope s_law) (by decide +kernel)) (by first | exact List.mem_cons_self | (refine ⟨?_, ?_⟩ <;> simp) | (refine ⟨?_, ?_, ?_⟩ <;> simp)) (fun _ _ _ _ _ => (pg_name (i := 10) sc_law.nd rfl (Or.inl rfl))) (fun _ _ _ _ _ => dts_nil) (fun _ _ _ _ _ => (de_op os_sub (de_ix (de_var (pv 13)) (de_var (pv 10)) (fun _ _ => rfl)) (de_ix (de_var (pv 13)) (de_op os_sub (de_var (pv 10)) de_int) (fun _ _ => rfl)))) (own := [("k", 10)]) (g := CT.one 10)) (nomark _))))) (dss_one (ds_ret de_bl)) dss_nil)
  (dss_cons (ds_set (i := 15) sc_law.nd rfl (Or.inr rfl) (de_lc rfl sc_law.nd (di_range1 (by rfl) T.z_range (da_cons (de_callS (ok__law_take T) (hr.mono (by decide)) (by rfl) T.m__law_take T.F__law_take.kp T.b__law_take (pv 1) (da_cons de_int da_nil)) da_nil)) (blkOk_by (own := [("k", 10)]) (N := N_law) (sc := defScope s_law) (by decide +kernel)) (by first | exact List.mem_cons_self | (refine ⟨?_, ?_⟩ <;> simp) | (refine ⟨?_, ?_, ?_⟩ <;> simp)) (fun _ _ _ _ _ => (pg_name (i := 10) sc_law.nd rfl (Or.inl rfl))) (fun _ _ _ _ _ => dts_nil) (fun _ _ _ _ _ => (de_op os_sub (de_callS (ok__law_take T) (hr.mono (by decide)) (by rfl) T.m__law_take T.F__law_take.kp T.b__law_take (pv 1) (da_cons de_int da_nil)) de_int)) (own := [("k", 10)]) (g := CT.one 10)))
  (dss_cons (ds_set (i := 16) sc_law.nd rfl (Or.inl rfl) (de_call (ok_from_choices T) (hr.mono (by decide)) (by rfl) T.m_from_choices T.F_from_choices.kp T.b_from_choices (da_cons (de_tlist (by rfl) T.z_list (de_var (pv 15))) da_nil)))
  (dss_cons (ds_if (PW.pt (dw_or (dt_not (dt_tru (de_call (ok__law_is_over T) (hr.mono (by decide)) (by rfl) T.m__law_is_over T.F__law_is_over.kp T.b__law_is_over (da_cons (de_var (pv 16)) da_nil)))) (dw_or1 (dt_cmp os_gt (de_len (by rfl) T.z_len (de_ix (de_var (pv 16)) de_int (fun _ _ => rfl))) (de_max2 rfl (by rfl) T.z_max de_int (de_len (by rfl) T.z_len (de_var (pv 15)))) (nomark _))))) (dss_one (ds_ret de_bl)) dss_nil)
  (dss_cons (ds_for PassesOwn.never rfl (di_range1 (by rfl) T.z_range (da_cons (de_op os_add (de_len (by rfl) T.z_len (de_var (pv 15))) de_int) da_nil)) (dg_name (pg_name (i := 14) sc_law.nd rfl (Or.inr rfl))) (dss_one (ds_if (dt_cmp (os_ne hr.units) (de_call (ok__law_over_value T) (hr.mono (by decide)) (by rfl) T.m__law_over_value T.F__law_over_value.kp T.b__law_over_value (da_cons (de_var (pv 16)) (da_cons (de_tup (da_cons (de_var (pv 14)) (da_cons de_int da_nil))) da_nil))) (de_tup (da_cons (de_sum rfl (by rfl) T.z_sum (de_lc rfl sc_law.nd (di_range1 (by rfl) T.z_range (da_cons (de_len (by rfl) T.z_len (de_var (pv 15))) da_nil)) (blkOk_by (own := [("k", 10)]) (N := N_law) (sc := defScope s_law) (by decide +kernel)) (by first | exact List.mem_cons_self | (refine ⟨?_, ?_⟩ <;> simp) | (refine ⟨?_, ?_, ?_⟩ <;> simp)) (fun _ _ _ _ _ => (pg_name (i := 10) sc_law.nd rfl (Or.inl rfl))) (fun _ _ _ _ _ => dts_nil) (fun _ _ _ _ _ => (de_op os_mul (de_ix (de_var (pv 15)) (de_var (pv 10)) (fun _ _ => rfl)) (de_call (ok__law_choices T) (hr.mono (by decide)) (by rfl) T.m__law_choices T.F__law_choices.kp T.b__law_choices (da_cons (de_var (pv 14)) (da_cons (de_var (pv 10)) da_nil))))) (own := [("k", 10)]) (g := CT.one 10))) (da_cons de_int da_nil))) (nomark _)) (dss_one (ds_ret de_bl)) dss_nil)))
  (dss_cons (ds_set (i := 17) sc_law.nd rfl (Or.inr rfl) (de_call (ok_sum_poly T) (hr.mono (by decide)) (by rfl) T.m_sum_poly T.F_sum_poly.kp T.b_sum_poly (da_cons (de_tlist (by rfl) T.z_list (de_var (pv 11))) da_nil)))
  (dss_cons (ds_if (PW.pt (dw_or (dt_not (dt_tru (de_call (ok__law_is_over T) (hr.mono (by decide)) (by rfl) T.m__law_is_over T.F__law_is_over.kp T.b__law_is_over (da_cons (de_var (pv 17)) da_nil)))) (dw_or1 (dt_cmp os_gt (de_len (by rfl) T.z_len (de_ix (de_var (pv 17)) de_int (fun _ _ => rfl))) (de_op os_add (de_len (by rfl) T.z_len (de_var (pv 11))) de_int) (nomark _))))) (dss_one (ds_ret de_bl)) dss_nil)
  (dss_one (ds_ret (de_and (de_cmp (os_eq hr.units) (de_lc rfl sc_law.nd (di_range1 (by rfl) T.z_range (da_cons (de_len (by rfl) T.z_len (de_var (pv 13))) da_nil)) (blkOk_by (own := [("n", 14)]) (N := N_law) (sc := defScope s_law) (by decide +kernel)) (by first | exact List.mem_cons_self | (refine ⟨?_, ?_⟩ <;> simp) | (refine ⟨?_, ?_, ?_⟩ <;> simp)) (fun _ _ _ _ _ => (pg_name (i := 14) sc_law.nd rfl (Or.inl rfl))) (fun _ _ _ _ _ => (dts_one (dt_cmp (os_ne hr.units) (de_call (ok__law_over_value T) (hr.mono (by decide)) (by rfl) T.m__law_over_value T.F__law_over_value.kp T.b__law_over_value (da_cons (de_var (pv 17)) (da_cons (de_tup (da_cons (de_var (pv 14)) (da_cons de_int da_nil))) da_nil))) (de_tup (da_cons (de_sum rfl (by rfl) T.z_sum (de_sl (de_var (pv 13)) do_none (do_some (de_var (pv 14))))) (da_cons de_int da_nil))) (nomark _)))) (fun _ _ _ _ _ => (de_var (pv 14))) (own := [("n", 14)]) (g := CT.one 14)) (de_lst da_nil) (nomark _)) (de_one (de_cmp (os_eq hr.units) (de_call (ok_differences T) (hr.mono (by decide)) (by rfl) T.m_differences T.F_differences.kp T.b_differences (da_cons (de_lst da_nil) da_nil)) (de_lst da_nil) (nomark _))))))))))))))))))))))))))))))
end
section
variable {P : Program} {w : World} {K : PySem.W.Frag} {mg : Str → Option Value} {h : Heap}
theorem ent {x y : Str} {st : Stmt} {f : Addr} {oc : Value} {od an : Option Addr} {osl : Array (Option Value)} {kV doc pm cdv ct : Value} (X : K.In h) (G : h.Ns mainGlobals mg) (a : PySem.W.nsIn K mainGlobals y = some (some (.ref f)))
    (l : K.lookup f = some ⟨oc, od, .func (PySem.W.fnOf x x (defArgs st) (defBody st) (defScope st) .none kV doc pm an cdv ct), osl⟩) (c : PySem.W.codeIn K cdv x = true) (k : PySem.W.keepIn K (.ref f) = true) :
    ∃ f fd, Fun K x x st f fd ∧ mg y = some (.ref f) := ⟨_, _, fun_mk l c k, PySem.W.mg_of X G a⟩
end
section
variable {K : PySem.W.Frag} {mg : Str → Option Value} {h : Heap}
theorem exm_self {S : Addr} (h1 : PySem.W.subIn K (.ref S) (.type "BaseException") = some true) (h2 : PySem.W.isClsIn K S = true) (h3 : PySem.W.typeIn K (.ref S) = some (.type "type")) (h4 : PySem.W.subIn K (.ref S) (.ref S) = some true) :
    PySem.W.exmOne K (.ref S) (.ref S) = some true := by
  have e1 : (PySem.W.subIn K (.ref S) (.type "BaseException") == some true) = true := by rw [h1] <;> rfl
  have e2 : ((PySem.W.clsIn K S).isSome && PySem.W.typeIn K (.ref S) == some (.type "type")) = true := by
    have h2' : (PySem.W.clsIn K S).isSome = true := h2
    rw [h2', h3] <;> rfl
  show (if (PySem.W.subIn K (.ref S) (.type "BaseException") == some true) = true then (if ((PySem.W.clsIn K S).isSome && PySem.W.typeIn K (.ref S) == some (.type "type")) = true then PySem.W.subIn K (.ref S) (.ref S) else none) else none) = some true
  rw [if_pos e1, if_pos e2]
  exact h4
theorem entC {x : Str} {C : Addr} {bm : List Value} {nw : String} (X : K.In h) (G : h.Ns mainGlobals mg) (a : PySem.W.nsIn K mainGlobals x = some (some (.ref C))) (xF : PySem.W.excIn K C bm nw = true) (k : PySem.W.keepIn K (.ref C) = true)
    (b : PySem.W.subIn K (.ref C) (.type "BaseException") = some true) (t : PySem.W.typeIn K (.ref C) = some (.type "type")) (i : PySem.W.isClsIn K C = true) (s : PySem.W.subIn K (.ref C) (.ref C) = some true) :
    ∃ C : Addr, mg x = some (.ref C) ∧ PySem.W.excIn K C bm nw = true ∧ PySem.W.keepIn K (.ref C) = true ∧ PySem.W.subIn K (.ref C) (.type "BaseException") = some true ∧ PySem.W.typeIn K (.ref C) = some (.type "type") ∧ PySem.W.exmOne K (.ref C) (.ref C) = some true :=
  ⟨C, PySem.W.mg_of X G a, xF, k, b, t, exm_self b i t s⟩
end
theorem law_mk {P : Program} {w : World} {K : PySem.W.Frag} {mg : Str → Option Value} {fa : Addr} (hfa : mg "law" = some (.ref fa)) (T : Top K mg) (hb : ∀ (s : Shared) (v : Value), BindsTo s T.fd_law ⟨[v], []⟩ [("script", v)]) :
    ∃ fd : FuncData, (∀ (s : Shared) (v : Value), BindsTo s fd ⟨[v], []⟩ [("script", v)]) ∧ ∀ base : Heap, K.In base → base.Ns mainGlobals mg → FnOk P w K mg base CX0 7 fa fd ["script"] (spLaw K) := by
  have e := hfa.symm.trans T.m_law
  cases e
  exact ⟨T.fd_law, hb, fun base _ _ => (ok_law T).imp fun _ _ _ _ => law_imp⟩
end Rl
open PySem PySem.W PyProof.Rows
set_option maxHeartbeats 0 in
theorem PySem.Challenge.cw_roothold_k01_values_and_sums_holds : PySem.Challenge.rw_roothold_k01_values_and_sums.Holds := by
  w_on; o_law; k_head; (case hw => w_witness2)
  k_fill
  refine L2.walk_of (l := PySem.Challenge.rw_roothold_k01_values_and_sums) (n := 63) (k := 7) (x := "script") (CX := fun _ => L2.CX0) (sp := fun w => Dn.spLaw _) rfl (by decide) rfl ⟨rfl, by decide, by decide⟩ (fun w h Y => PySem.W.kIn_of Y) ?F (fun _ _ a ns hl _ hS => ⟨a, ns, rfl, hS, hl, fun _ => rfl⟩) (fun _ _ _ _ _ h => h)
  case F =>
    intro w mg fa h KX G hmg
    obtain ⟨f_common_divisor, fd_common_divisor, F_common_divisor, m_common_divisor⟩ : ∃ f fd, L2.Fun _ "common_divisor" "common_divisor" Rl.s_common_divisor f fd ∧ mg "common_divisor" = some (.ref f) := by
      refine' Rl.ent KX G ?a ?l ?c ?k
      (case a => k_is); (case l => k_is); (case c => k_is); (case k => k_is)
    obtain ⟨f_ratio, fd_ratio, F_ratio, m_ratio⟩ : ∃ f fd, L2.Fun _ "ratio" "ratio" Rl.s_ratio f fd ∧ mg "ratio" = some (.ref f) := by
      refine' Rl.ent KX G ?a ?l ?c ?k
      (case a => k_is); (case l => k_is); (case c => k_is); (case k => k_is)
    obtain ⟨f_plus, fd_plus, F_plus, m_plus⟩ : ∃ f fd, L2.Fun _ "plus" "plus" Rl.s_plus f fd ∧ mg "plus" = some (.ref f) := by
      refine' Rl.ent KX G ?a ?l ?c ?k
      (case a => k_is); (case l => k_is); (case c => k_is); (case k => k_is)
    obtain ⟨f_minus, fd_minus, F_minus, m_minus⟩ : ∃ f fd, L2.Fun _ "minus" "minus" Rl.s_minus f fd ∧ mg "minus" = some (.ref f) := by
      refine' Rl.ent KX G ?a ?l ?c ?k
      (case a => k_is); (case l => k_is); (case c => k_is); (case k => k_is)
    obtain ⟨f_times_ratios, fd_times_ratios, F_times_ratios, m_times_ratios⟩ : ∃ f fd, L2.Fun _ "times" "times" Rl.s_times_ratios f fd ∧ mg "times_ratios" = some (.ref f) := by
      refine' Rl.ent KX G ?a ?l ?c ?k
      (case a => k_is); (case l => k_is); (case c => k_is); (case k => k_is)
    obtain ⟨f_over, fd_over, F_over, m_over⟩ : ∃ f fd, L2.Fun _ "over" "over" Rl.s_over f fd ∧ mg "over" = some (.ref f) := by
      refine' Rl.ent KX G ?a ?l ?c ?k
      (case a => k_is); (case l => k_is); (case c => k_is); (case k => k_is)
    obtain ⟨f_trimmed, fd_trimmed, F_trimmed, m_trimmed⟩ : ∃ f fd, L2.Fun _ "trimmed" "trimmed" Rl.s_trimmed f fd ∧ mg "trimmed" = some (.ref f) := by
      refine' Rl.ent KX G ?a ?l ?c ?k
      (case a => k_is); (case l => k_is); (case c => k_is); (case k => k_is)
    obtain ⟨f_times_single, fd_times_single, F_times_single, m_times_single⟩ : ∃ f fd, L2.Fun _ "times" "times" Rl.s_times_single f fd ∧ mg "times_single" = some (.ref f) := by
      refine' Rl.ent KX G ?a ?l ?c ?k
      (case a => k_is); (case l => k_is); (case c => k_is); (case k => k_is)
    obtain ⟨f_content, fd_content, F_content, m_content⟩ : ∃ f fd, L2.Fun _ "content" "content" Rl.s_content f fd ∧ mg "content" = some (.ref f) := by
      refine' Rl.ent KX G ?a ?l ?c ?k
      (case a => k_is); (case l => k_is); (case c => k_is); (case k => k_is)
    obtain ⟨f_common_bottom, fd_common_bottom, F_common_bottom, m_common_bottom⟩ : ∃ f fd, L2.Fun _ "common_bottom" "common_bottom" Rl.s_common_bottom f fd ∧ mg "common_bottom" = some (.ref f) := by
      refine' Rl.ent KX G ?a ?l ?c ?k
      (case a => k_is); (case l => k_is); (case c => k_is); (case k => k_is)
    obtain ⟨f_as_quotient, fd_as_quotient, F_as_quotient, m_as_quotient⟩ : ∃ f fd, L2.Fun _ "as_quotient" "as_quotient" Rl.s_as_quotient f fd ∧ mg "as_quotient" = some (.ref f) := by
      refine' Rl.ent KX G ?a ?l ?c ?k
      (case a => k_is); (case l => k_is); (case c => k_is); (case k => k_is)
    obtain ⟨f_row_product, fd_row_product, F_row_product, m_row_product⟩ : ∃ f fd, L2.Fun _ "row_product" "row_product" Rl.s_row_product f fd ∧ mg "row_product" = some (.ref f) := by
      refine' Rl.ent KX G ?a ?l ?c ?k
      (case a => k_is); (case l => k_is); (case c => k_is); (case k => k_is)
    obtain ⟨f_row_sum, fd_row_sum, F_row_sum, m_row_sum⟩ : ∃ f fd, L2.Fun _ "row_sum" "row_sum" Rl.s_row_sum f fd ∧ mg "row_sum" = some (.ref f) := by
      refine' Rl.ent KX G ?a ?l ?c ?k
      (case a => k_is); (case l => k_is); (case c => k_is); (case k => k_is)
    obtain ⟨f_through, fd_through, F_through, m_through⟩ : ∃ f fd, L2.Fun _ "through" "through" Rl.s_through f fd ∧ mg "through" = some (.ref f) := by
      refine' Rl.ent KX G ?a ?l ?c ?k
      (case a => k_is); (case l => k_is); (case c => k_is); (case k => k_is)
    obtain ⟨f_differences, fd_differences, F_differences, m_differences⟩ : ∃ f fd, L2.Fun _ "differences" "differences" Rl.s_differences f fd ∧ mg "differences" = some (.ref f) := by
      refine' Rl.ent KX G ?a ?l ?c ?k
      (case a => k_is); (case l => k_is); (case c => k_is); (case k => k_is)
    obtain ⟨f_value_at_integer, fd_value_at_integer, F_value_at_integer, m_value_at_integer⟩ : ∃ f fd, L2.Fun _ "value_at_integer" "value_at_integer" Rl.s_value_at_integer f fd ∧ mg "value_at_integer" = some (.ref f) := by
      refine' Rl.ent KX G ?a ?l ?c ?k
      (case a => k_is); (case l => k_is); (case c => k_is); (case k => k_is)
    obtain ⟨f_by_choices, fd_by_choices, F_by_choices, m_by_choices⟩ : ∃ f fd, L2.Fun _ "by_choices" "by_choices" Rl.s_by_choices f fd ∧ mg "by_choices" = some (.ref f) := by
      refine' Rl.ent KX G ?a ?l ?c ?k
      (case a => k_is); (case l => k_is); (case c => k_is); (case k => k_is)
    obtain ⟨f_choices_poly, fd_choices_poly, F_choices_poly, m_choices_poly⟩ : ∃ f fd, L2.Fun _ "choices_poly" "choices_poly" Rl.s_choices_poly f fd ∧ mg "choices_poly" = some (.ref f) := by
      refine' Rl.ent KX G ?a ?l ?c ?k
      (case a => k_is); (case l => k_is); (case c => k_is); (case k => k_is)
    obtain ⟨f_from_choices, fd_from_choices, F_from_choices, m_from_choices⟩ : ∃ f fd, L2.Fun _ "from_choices" "from_choices" Rl.s_from_choices f fd ∧ mg "from_choices" = some (.ref f) := by
      refine' Rl.ent KX G ?a ?l ?c ?k
      (case a => k_is); (case l => k_is); (case c => k_is); (case k => k_is)
    obtain ⟨f_sum_poly, fd_sum_poly, F_sum_poly, m_sum_poly⟩ : ∃ f fd, L2.Fun _ "sum_poly" "sum_poly" Rl.s_sum_poly f fd ∧ mg "sum_poly" = some (.ref f) := by
      refine' Rl.ent KX G ?a ?l ?c ?k
      (case a => k_is); (case l => k_is); (case c => k_is); (case k => k_is)
    obtain ⟨f__law_cell, fd__law_cell, F__law_cell, m__law_cell⟩ : ∃ f fd, L2.Fun _ "_law_cell" "_law_cell" Rl.s__law_cell f fd ∧ mg "_law_cell" = some (.ref f) := by
      refine' Rl.ent KX G ?a ?l ?c ?k
      (case a => k_is); (case l => k_is); (case c => k_is); (case k => k_is)
    obtain ⟨f__law_take, fd__law_take, F__law_take, m__law_take⟩ : ∃ f fd, L2.Fun _ "_law_take" "_law_take" Rl.s__law_take f fd ∧ mg "_law_take" = some (.ref f) := by
      refine' Rl.ent KX G ?a ?l ?c ?k
      (case a => k_is); (case l => k_is); (case c => k_is); (case k => k_is)
    obtain ⟨f__law_big, fd__law_big, F__law_big, m__law_big⟩ : ∃ f fd, L2.Fun _ "_law_big" "_law_big" Rl.s__law_big f fd ∧ mg "_law_big" = some (.ref f) := by
      refine' Rl.ent KX G ?a ?l ?c ?k
      (case a => k_is); (case l => k_is); (case c => k_is); (case k => k_is)
    obtain ⟨f__law_divisor, fd__law_divisor, F__law_divisor, m__law_divisor⟩ : ∃ f fd, L2.Fun _ "_law_divisor" "_law_divisor" Rl.s__law_divisor f fd ∧ mg "_law_divisor" = some (.ref f) := by
      refine' Rl.ent KX G ?a ?l ?c ?k
      (case a => k_is); (case l => k_is); (case c => k_is); (case k => k_is)
    obtain ⟨f__law_ratio, fd__law_ratio, F__law_ratio, m__law_ratio⟩ : ∃ f fd, L2.Fun _ "_law_ratio" "_law_ratio" Rl.s__law_ratio f fd ∧ mg "_law_ratio" = some (.ref f) := by
      refine' Rl.ent KX G ?a ?l ?c ?k
      (case a => k_is); (case l => k_is); (case c => k_is); (case k => k_is)
    obtain ⟨f__law_trim, fd__law_trim, F__law_trim, m__law_trim⟩ : ∃ f fd, L2.Fun _ "_law_trim" "_law_trim" Rl.s__law_trim f fd ∧ mg "_law_trim" = some (.ref f) := by
      refine' Rl.ent KX G ?a ?l ?c ?k
      (case a => k_is); (case l => k_is); (case c => k_is); (case k => k_is)
    obtain ⟨f__law_is_poly, fd__law_is_poly, F__law_is_poly, m__law_is_poly⟩ : ∃ f fd, L2.Fun _ "_law_is_poly" "_law_is_poly" Rl.s__law_is_poly f fd ∧ mg "_law_is_poly" = some (.ref f) := by
      refine' Rl.ent KX G ?a ?l ?c ?k
      (case a => k_is); (case l => k_is); (case c => k_is); (case k => k_is)
    obtain ⟨f__law_poly, fd__law_poly, F__law_poly, m__law_poly⟩ : ∃ f fd, L2.Fun _ "_law_poly" "_law_poly" Rl.s__law_poly f fd ∧ mg "_law_poly" = some (.ref f) := by
      refine' Rl.ent KX G ?a ?l ?c ?k
      (case a => k_is); (case l => k_is); (case c => k_is); (case k => k_is)
    obtain ⟨f__law_content, fd__law_content, F__law_content, m__law_content⟩ : ∃ f fd, L2.Fun _ "_law_content" "_law_content" Rl.s__law_content f fd ∧ mg "_law_content" = some (.ref f) := by
      refine' Rl.ent KX G ?a ?l ?c ?k
      (case a => k_is); (case l => k_is); (case c => k_is); (case k => k_is)
    obtain ⟨f__law_plus, fd__law_plus, F__law_plus, m__law_plus⟩ : ∃ f fd, L2.Fun _ "_law_plus" "_law_plus" Rl.s__law_plus f fd ∧ mg "_law_plus" = some (.ref f) := by
      refine' Rl.ent KX G ?a ?l ?c ?k
      (case a => k_is); (case l => k_is); (case c => k_is); (case k => k_is)
    obtain ⟨f__law_times, fd__law_times, F__law_times, m__law_times⟩ : ∃ f fd, L2.Fun _ "_law_times" "_law_times" Rl.s__law_times f fd ∧ mg "_law_times" = some (.ref f) := by
      refine' Rl.ent KX G ?a ?l ?c ?k
      (case a => k_is); (case l => k_is); (case c => k_is); (case k => k_is)
    obtain ⟨f__law_value, fd__law_value, F__law_value, m__law_value⟩ : ∃ f fd, L2.Fun _ "_law_value" "_law_value" Rl.s__law_value f fd ∧ mg "_law_value" = some (.ref f) := by
      refine' Rl.ent KX G ?a ?l ?c ?k
      (case a => k_is); (case l => k_is); (case c => k_is); (case k => k_is)
    obtain ⟨f__law_over_value, fd__law_over_value, F__law_over_value, m__law_over_value⟩ : ∃ f fd, L2.Fun _ "_law_over_value" "_law_over_value" Rl.s__law_over_value f fd ∧ mg "_law_over_value" = some (.ref f) := by
      refine' Rl.ent KX G ?a ?l ?c ?k
      (case a => k_is); (case l => k_is); (case c => k_is); (case k => k_is)
    obtain ⟨f__law_is_over, fd__law_is_over, F__law_is_over, m__law_is_over⟩ : ∃ f fd, L2.Fun _ "_law_is_over" "_law_is_over" Rl.s__law_is_over f fd ∧ mg "_law_is_over" = some (.ref f) := by
      refine' Rl.ent KX G ?a ?l ?c ?k
      (case a => k_is); (case l => k_is); (case c => k_is); (case k => k_is)
    obtain ⟨f__law_choices, fd__law_choices, F__law_choices, m__law_choices⟩ : ∃ f fd, L2.Fun _ "_law_choices" "_law_choices" Rl.s__law_choices f fd ∧ mg "_law_choices" = some (.ref f) := by
      refine' Rl.ent KX G ?a ?l ?c ?k
      (case a => k_is); (case l => k_is); (case c => k_is); (case k => k_is)
    obtain ⟨f_law, fd_law, F_law, m_law⟩ : ∃ f fd, L2.Fun _ "law" "law" Rl.s_law f fd ∧ mg "law" = some (.ref f) := by
      refine' Rl.ent KX G ?a ?l ?c ?k
      (case a => k_is); (case l => k_is); (case c => k_is); (case k => k_is)
    have z_abs : mg "abs" = none := by
      refine' PySem.W.mg_none_of KX G ?z
      (case z => k_is)
    have z_bool : mg "bool" = none := by
      refine' PySem.W.mg_none_of KX G ?z
      (case z => k_is)
    have z_enumerate : mg "enumerate" = none := by
      refine' PySem.W.mg_none_of KX G ?z
      (case z => k_is)
    have z_int : mg "int" = none := by
      refine' PySem.W.mg_none_of KX G ?z
      (case z => k_is)
    have z_isinstance : mg "isinstance" = none := by
      refine' PySem.W.mg_none_of KX G ?z
      (case z => k_is)
    have z_len : mg "len" = none := by
      refine' PySem.W.mg_none_of KX G ?z
      (case z => k_is)
    have z_list : mg "list" = none := by
      refine' PySem.W.mg_none_of KX G ?z
      (case z => k_is)
    have z_max : mg "max" = none := by
      refine' PySem.W.mg_none_of KX G ?z
      (case z => k_is)
    have z_range : mg "range" = none := by
      refine' PySem.W.mg_none_of KX G ?z
      (case z => k_is)
    have z_reversed : mg "reversed" = none := by
      refine' PySem.W.mg_none_of KX G ?z
      (case z => k_is)
    have z_sum : mg "sum" = none := by
      refine' PySem.W.mg_none_of KX G ?z
      (case z => k_is)
    have z_tuple : mg "tuple" = none := by
      refine' PySem.W.mg_none_of KX G ?z
      (case z => k_is)
    have b_common_divisor := F_common_divisor.binds (ps := ["one", "two"]) fun _ _ _ _ _ _ us hl => match us, hl with | [_, _], _ => rfl
    have b_ratio := F_ratio.binds (ps := ["numerator", "denominator"]) fun _ _ _ _ _ _ us hl => match us, hl with | [_, _], _ => rfl
    have b_plus := F_plus.binds (ps := ["one", "two"]) fun _ _ _ _ _ _ us hl => match us, hl with | [_, _], _ => rfl
    have b_minus := F_minus.binds (ps := ["one", "two"]) fun _ _ _ _ _ _ us hl => match us, hl with | [_, _], _ => rfl
    have b_times_ratios := F_times_ratios.binds (ps := ["one", "two"]) fun _ _ _ _ _ _ us hl => match us, hl with | [_, _], _ => rfl
    have b_over := F_over.binds (ps := ["one", "two"]) fun _ _ _ _ _ _ us hl => match us, hl with | [_, _], _ => rfl
    have b_trimmed := F_trimmed.binds (ps := ["numbers"]) fun _ _ _ _ _ _ us hl => match us, hl with | [_], _ => rfl
    have b_times_single := F_times_single.binds (ps := ["one", "two"]) fun _ _ _ _ _ _ us hl => match us, hl with | [_, _], _ => rfl
    have b_content := F_content.binds (ps := ["one"]) fun _ _ _ _ _ _ us hl => match us, hl with | [_], _ => rfl
    have b_common_bottom := F_common_bottom.binds (ps := ["numbers"]) fun _ _ _ _ _ _ us hl => match us, hl with | [_], _ => rfl
    have b_as_quotient := F_as_quotient.binds (ps := ["numbers"]) fun _ _ _ _ _ _ us hl => match us, hl with | [_], _ => rfl
    have b_row_product := F_row_product.binds (ps := ["one", "at"]) fun _ _ _ _ _ _ us hl => match us, hl with | [_, _], _ => rfl
    have b_row_sum := F_row_sum.binds (ps := ["one", "two", "factor"]) fun _ _ _ _ _ _ us hl => match us, hl with | [_, _, _], _ => rfl
    have b_through := F_through.binds (ps := ["points"]) fun _ _ _ _ _ _ us hl => match us, hl with | [_], _ => rfl
    have b_differences := F_differences.binds (ps := ["row"]) fun _ _ _ _ _ _ us hl => match us, hl with | [_], _ => rfl
    have b_value_at_integer := F_value_at_integer.binds (ps := ["one", "at"]) fun _ _ _ _ _ _ us hl => match us, hl with | [_, _], _ => rfl
    have b_by_choices := F_by_choices.binds (ps := ["one"]) fun _ _ _ _ _ _ us hl => match us, hl with | [_], _ => rfl
    have b_choices_poly := F_choices_poly.binds (ps := ["count"]) fun _ _ _ _ _ _ us hl => match us, hl with | [_], _ => rfl
    have b_from_choices := F_from_choices.binds (ps := ["row"]) fun _ _ _ _ _ _ us hl => match us, hl with | [_], _ => rfl
    have b_sum_poly := F_sum_poly.binds (ps := ["one"]) fun _ _ _ _ _ _ us hl => match us, hl with | [_], _ => rfl
    have b__law_cell := F__law_cell.binds (ps := ["script", "k"]) fun _ _ _ _ _ _ us hl => match us, hl with | [_, _], _ => rfl
    have b__law_take := F__law_take.binds (ps := ["state", "m"]) fun _ _ _ _ _ _ us hl => match us, hl with | [_, _], _ => rfl
    have b__law_big := F__law_big.binds (ps := ["script", "at", "count"]) fun _ _ _ _ _ _ us hl => match us, hl with | [_, _, _], _ => rfl
    have b__law_divisor := F__law_divisor.binds (ps := ["one", "two"]) fun _ _ _ _ _ _ us hl => match us, hl with | [_, _], _ => rfl
    have b__law_ratio := F__law_ratio.binds (ps := ["p", "q"]) fun _ _ _ _ _ _ us hl => match us, hl with | [_, _], _ => rfl
    have b__law_trim := F__law_trim.binds (ps := ["row"]) fun _ _ _ _ _ _ us hl => match us, hl with | [_], _ => rfl
    have b__law_is_poly := F__law_is_poly.binds (ps := ["row"]) fun _ _ _ _ _ _ us hl => match us, hl with | [_], _ => rfl
    have b__law_poly := F__law_poly.binds (ps := ["state", "degree", "size"]) fun _ _ _ _ _ _ us hl => match us, hl with | [_, _, _], _ => rfl
    have b__law_content := F__law_content.binds (ps := ["one"]) fun _ _ _ _ _ _ us hl => match us, hl with | [_], _ => rfl
    have b__law_plus := F__law_plus.binds (ps := ["one", "two"]) fun _ _ _ _ _ _ us hl => match us, hl with | [_, _], _ => rfl
    have b__law_times := F__law_times.binds (ps := ["one", "two"]) fun _ _ _ _ _ _ us hl => match us, hl with | [_, _], _ => rfl
    have b__law_value := F__law_value.binds (ps := ["one", "at"]) fun _ _ _ _ _ _ us hl => match us, hl with | [_, _], _ => rfl
    have b__law_over_value := F__law_over_value.binds (ps := ["pair", "at"]) fun _ _ _ _ _ _ us hl => match us, hl with | [_, _], _ => rfl
    have b__law_is_over := F__law_is_over.binds (ps := ["pair"]) fun _ _ _ _ _ _ us hl => match us, hl with | [_], _ => rfl
    have b__law_choices := F__law_choices.binds (ps := ["n", "k"]) fun _ _ _ _ _ _ us hl => match us, hl with | [_, _], _ => rfl
    have b_law := F_law.binds (ps := ["script"]) fun _ _ _ _ _ _ us hl => match us, hl with | [_], _ => rfl
    exact Rl.law_mk hmg ⟨f_common_divisor, fd_common_divisor, F_common_divisor, b_common_divisor, m_common_divisor, f_ratio, fd_ratio, F_ratio, b_ratio, m_ratio, f_plus, fd_plus, F_plus, b_plus, m_plus, f_minus, fd_minus, F_minus, b_minus, m_minus, f_times_ratios, fd_times_ratios, F_times_ratios, b_times_ratios, m_times_ratios, f_over, fd_over, F_over, b_over, m_over, f_trimmed, fd_trimmed, F_trimmed, b_trimmed, m_trimmed, f_times_single, fd_times_single, F_times_single, b_times_single, m_times_single, f_content, fd_content, F_content, b_content, m_content, f_common_bottom, fd_common_bottom, F_common_bottom, b_common_bottom, m_common_bottom, f_as_quotient, fd_as_quotient, F_as_quotient, b_as_quotient, m_as_quotient, f_row_product, fd_row_product, F_row_product, b_row_product, m_row_product, f_row_sum, fd_row_sum, F_row_sum, b_row_sum, m_row_sum, f_through, fd_through, F_through, b_through, m_through, f_differences, fd_differences, F_differences, b_differences, m_differences, f_value_at_integer, fd_value_at_integer, F_value_at_integer, b_value_at_integer, m_value_at_integer, f_by_choices, fd_by_choices, F_by_choices, b_by_choices, m_by_choices, f_choices_poly, fd_choices_poly, F_choices_poly, b_choices_poly, m_choices_poly, f_from_choices, fd_from_choices, F_from_choices, b_from_choices, m_from_choices, f_sum_poly, fd_sum_poly, F_sum_poly, b_sum_poly, m_sum_poly, f__law_cell, fd__law_cell, F__law_cell, b__law_cell, m__law_cell, f__law_take, fd__law_take, F__law_take, b__law_take, m__law_take, f__law_big, fd__law_big, F__law_big, b__law_big, m__law_big, f__law_divisor, fd__law_divisor, F__law_divisor, b__law_divisor, m__law_divisor, f__law_ratio, fd__law_ratio, F__law_ratio, b__law_ratio, m__law_ratio, f__law_trim, fd__law_trim, F__law_trim, b__law_trim, m__law_trim, f__law_is_poly, fd__law_is_poly, F__law_is_poly, b__law_is_poly, m__law_is_poly, f__law_poly, fd__law_poly, F__law_poly, b__law_poly, m__law_poly, f__law_content, fd__law_content, F__law_content, b__law_content, m__law_content, f__law_plus, fd__law_plus, F__law_plus, b__law_plus, m__law_plus, f__law_times, fd__law_times, F__law_times, b__law_times, m__law_times, f__law_value, fd__law_value, F__law_value, b__law_value, m__law_value, f__law_over_value, fd__law_over_value, F__law_over_value, b__law_over_value, m__law_over_value, f__law_is_over, fd__law_is_over, F__law_is_over, b__law_is_over, m__law_is_over, f__law_choices, fd__law_choices, F__law_choices, b__law_choices, m__law_choices, f_law, fd_law, F_law, b_law, m_law, z_abs, z_bool, z_enumerate, z_int, z_isinstance, z_len, z_list, z_max, z_range, z_reversed, z_sum, z_tuple⟩ (fun s v => by obtain ⟨_, _, _, _, _, _, _, _, _, e, _⟩ := F_law.ex; subst e; exact .of_eq rfl)

